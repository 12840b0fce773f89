import PyProof.Rows.All
import Wide.All
import OpenK.AllK
import Wide.FinOn
import HandS.ForMost
import HandS.WordsExc
import HandS.Defaults
import HandS.ExcInit
import HandS.HeadHook1
import HandS.HeadHook2
import HandS.ExcField
import HandS.TryOnly
import HandS.SortKw
import HandS.SortInts
import HandS.Style
import KE.DataMinMax
import HandS.IsInst
import HandS.Flow
import HandS.Wide
import HandS.WideMore
import HandS.WideBits
import HandS.Zip
import PySem.Challenge.RW_slashlevels_k63_whole_facts
section
set_option linter.all false
set_option autoImplicit false
namespace Sl
abbrev Sy := PySem.Str
def sB : Sy := ⟨#[92]⟩
def sQ : Sy := ⟨#[34]⟩
theorem sBQ : sB ≠ sQ := by decide
theorem sQB : sQ ≠ sB := by decide
abbrev Ch := Sy × Nat
abbrev Un := Sy × Nat

/-! ### characters, units, levels -/
def wd (s : Sy) (l : Nat) : Nat := if s = sB ∨ s = sQ then 2 ^ l else 1
theorem wd_B (l : Nat) : wd sB l = 2 ^ l := if_pos (.inl rfl)
theorem wd_Q (l : Nat) : wd sQ l = 2 ^ l := if_pos (.inr rfl)
theorem wd_p {s : Sy} (l : Nat) (h : s ≠ sB) (h2 : s ≠ sQ) : wd s l = 1 := if_neg (fun z => z.elim h h2)
theorem wd_pos (s : Sy) (l : Nat) : 0 < wd s l := by
  unfold wd
  split
  · exact Nat.two_pow_pos l
  · exact Nat.one_pos
def fl (w : Nat) : List Un := if w = 0 then [] else [(sB, w)]
def prs : Nat → List Ch → List Un
  | w, [] => fl w
  | w, c :: cs => if c.1 = sB then prs (w + 2 ^ c.2) cs else if c.1 = sQ then (sQ, w + 2 ^ c.2) :: prs 0 cs else fl w ++ (c.1, 1) :: prs 0 cs
def lvs : List Ch → List Nat
  | [] => []
  | c :: cs => List.replicate (wd c.1 c.2) c.2 ++ lvs cs
theorem lvs_app : ∀ a b : List Ch, lvs (a ++ b) = lvs a ++ lvs b
  | [], b => rfl
  | c :: a, b => by
    show List.replicate _ _ ++ lvs (a ++ b) = List.replicate _ _ ++ lvs a ++ lvs b
    rw [lvs_app a b, List.append_assoc]
theorem lvs_rep (s : Sy) (l : Nat) : ∀ k, lvs (List.replicate k (s, l)) = List.replicate (k * wd s l) l
  | 0 => by rw [Nat.zero_mul]; rfl
  | k + 1 => by
    rw [List.replicate_succ]
    show List.replicate (wd s l) l ++ lvs (List.replicate k (s, l)) = _
    rw [lvs_rep s l k, List.replicate_append_replicate, Nat.succ_mul, Nat.add_comm]

def cnt (l : Nat) (ls : List Nat) : Nat := ls.countP (fun x => decide (l ≤ x))
theorem cnt_nil (l : Nat) : cnt l [] = 0 := rfl
theorem cnt_app (l : Nat) (a b : List Nat) : cnt l (a ++ b) = cnt l a + cnt l b := List.countP_append ..
theorem cnt_cons (l x : Nat) (r : List Nat) : cnt l (x :: r) = (if l ≤ x then 1 else 0) + cnt l r := by
  unfold cnt
  rw [List.countP_cons]
  by_cases h : l ≤ x
  · simp [h, Nat.add_comm]
  · simp [h]
theorem cnt_rep (l x : Nat) : ∀ k, cnt l (List.replicate k x) = if l ≤ x then k else 0
  | 0 => by simp [cnt]
  | k + 1 => by
    rw [List.replicate_succ, cnt_cons, cnt_rep l x k]
    split <;> omega
theorem cnt_le (l : Nat) (ls : List Nat) : cnt l ls ≤ ls.length := List.countP_le_length
theorem cnt_none (l : Nat) : ∀ ls : List Nat, (∀ y ∈ ls, y < l) → cnt l ls = 0
  | [], _ => rfl
  | x :: r, h => by
    rw [cnt_cons, cnt_none l r fun y hy => h y (List.mem_cons_of_mem _ hy), if_neg (Nat.not_le_of_lt (h x List.mem_cons_self))]
theorem cnt_all (l : Nat) : ∀ ls : List Nat, (∀ y ∈ ls, l ≤ y) → cnt l ls = ls.length
  | [], _ => rfl
  | x :: r, h => by
    rw [cnt_cons, cnt_all l r fun y hy => h y (List.mem_cons_of_mem _ hy), if_pos (h x List.mem_cons_self), List.length_cons, Nat.add_comm]
theorem cnt_zero (ls : List Nat) : cnt 0 ls = ls.length := cnt_all 0 ls fun _ _ => Nat.zero_le _
theorem cnt_mono {l m : Nat} (h : l ≤ m) : ∀ ls : List Nat, cnt m ls ≤ cnt l ls
  | [] => Nat.le_refl _
  | x :: r => by
    rw [cnt_cons, cnt_cons]
    have := cnt_mono h r
    by_cases h1 : m ≤ x
    · rw [if_pos h1, if_pos (Nat.le_trans h h1)]; omega
    · rw [if_neg h1]; omega

/-- every 2^l divides the number of places of level l and more -/
def Al (ls : List Nat) : Prop := ∀ l, 2 ^ l ∣ cnt l ls
theorem Al.nil : Al [] := fun l => ⟨0, by rw [cnt_nil, Nat.mul_zero]⟩
theorem Al.app {a b : List Nat} (ha : Al a) (hb : Al b) : Al (a ++ b) := fun l => by
  rw [cnt_app]
  exact Nat.dvd_add (ha l) (hb l)
theorem Al.rep (k l : Nat) : Al (List.replicate (k * 2 ^ l) l) := fun m => by
  rw [cnt_rep]
  split
  · rename_i h
    exact Nat.dvd_trans (Nat.pow_dvd_pow 2 h) ⟨k, Nat.mul_comm _ _⟩
  · exact ⟨0, by omega⟩
def isG (u : Un) : Prop := u.1 = sB ∨ u.1 = sQ
instance (u : Un) : Decidable (isG u) := inferInstanceAs (Decidable (_ ∨ _))
def Fit : List Un → List Nat → Prop
  | [], ls => ls = []
  | u :: us, ls => u.2 ≤ ls.length ∧ (isG u → Al (ls.take u.2)) ∧ Fit us (ls.drop u.2)
theorem Fit.cons_app {u : Un} {us : List Un} {a b : List Nat} (h1 : a.length = u.2) (h2 : isG u → Al a) (h3 : Fit us b) : Fit (u :: us) (a ++ b) := by
  refine ⟨by rw [List.length_append]; omega, ?_, ?_⟩
  · rw [← h1, List.take_left]; exact h2
  · rw [← h1, List.drop_left]; exact h3
theorem fit_fl {us : List Un} {w : Nat} {pre b : List Nat} (hl : pre.length = w) (ha : Al pre) (h : Fit us b) : Fit (fl w ++ us) (pre ++ b) := by
  unfold fl
  split
  · rename_i e
    have : pre = [] := List.length_eq_zero_iff.mp (hl.trans e)
    rw [this]; exact h
  · exact Fit.cons_app hl (fun _ => ha) h
theorem fit_prs : ∀ (cs : List Ch) (w : Nat) (pre : List Nat), pre.length = w → Al pre → Fit (prs w cs) (pre ++ lvs cs)
  | [], w, pre, hl, ha => by
    have := fit_fl (us := []) (b := []) hl ha rfl
    rw [List.append_nil] at this
    exact this
  | c :: cs, w, pre, hl, ha => by
    obtain ⟨s, l⟩ := c
    have al1 : Al (List.replicate (2 ^ l) l) := by
      have := Al.rep 1 l
      rw [Nat.one_mul] at this
      exact this
    show Fit (if s = sB then prs (w + 2 ^ l) cs else if s = sQ then (sQ, w + 2 ^ l) :: prs 0 cs else fl w ++ (s, 1) :: prs 0 cs) (pre ++ (List.replicate (wd s l) l ++ lvs cs))
    by_cases hB : s = sB
    · rw [if_pos hB, ← List.append_assoc, hB, wd_B]
      exact fit_prs cs _ _ (by rw [List.length_append, List.length_replicate, hl]) (ha.app al1)
    · rw [if_neg hB]
      by_cases hQ : s = sQ
      · rw [if_pos hQ, ← List.append_assoc, hQ, wd_Q]
        refine Fit.cons_app (by rw [List.length_append, List.length_replicate, hl]) (fun _ => ha.app al1) ?_
        exact fit_prs cs 0 [] rfl Al.nil
      · rw [if_neg hQ, wd_p l hB hQ]
        refine fit_fl hl ha (Fit.cons_app (u := (s, 1)) rfl (fun z => (z.elim hB hQ).elim) ?_)
        exact fit_prs cs 0 [] rfl Al.nil
def tot : List Un → Nat
  | [] => 0
  | u :: us => u.2 + tot us
theorem tot_app : ∀ a b : List Un, tot (a ++ b) = tot a + tot b
  | [], b => by show _ = 0 + _; rw [Nat.zero_add]; rfl
  | u :: a, b => by
    show u.2 + tot (a ++ b) = u.2 + tot a + tot b
    rw [tot_app a b, Nat.add_assoc]
theorem Fit.len : ∀ {U : List Un} {ls : List Nat}, Fit U ls → ls.length = tot U
  | [], ls, h => by rw [show ls = [] from h]; rfl
  | u :: us, ls, h => by
    obtain ⟨h1, _, h3⟩ := h
    have := h3.len
    rw [List.length_drop] at this
    show _ = u.2 + tot us
    omega

/-! ### sorted levels -/
def Dn (ls : List Nat) : Prop := ls.Pairwise (fun a b => b ≤ a)
theorem Dn.nil : Dn [] := List.Pairwise.nil
theorem Dn.take {ls : List Nat} (h : Dn ls) (k : Nat) : Dn (ls.take k) := h.sublist (List.take_sublist k ls)
theorem Dn.drop {ls : List Nat} (h : Dn ls) (k : Nat) : Dn (ls.drop k) := h.sublist (List.drop_sublist k ls)
theorem Dn.head {x : Nat} {r : List Nat} (h : Dn (x :: r)) : ∀ y ∈ r, y ≤ x := (List.pairwise_cons.mp h).1
theorem Dn.tail {x : Nat} {r : List Nat} (h : Dn (x :: r)) : Dn r := (List.pairwise_cons.mp h).2
theorem Dn.rep (k l : Nat) : Dn (List.replicate k l) := List.pairwise_replicate.mpr (.inr (Nat.le_refl _))
theorem Dn.cnt_take {l : Nat} : ∀ {ls : List Nat} (k : Nat), Dn ls → cnt l (ls.take k) = min k (cnt l ls) ∧ cnt l (ls.drop k) = cnt l ls - k
  | [], k, _ => by simp [cnt]
  | x :: r, 0, _ => by simp [cnt]
  | x :: r, k + 1, h => by
    obtain ⟨i1, i2⟩ := Dn.cnt_take (l := l) k h.tail
    rw [List.take_succ_cons, List.drop_succ_cons, cnt_cons, cnt_cons, i1, i2]
    by_cases hx : l ≤ x
    · rw [if_pos hx]; omega
    · rw [if_neg hx]
      have : cnt l r = 0 := cnt_none l r fun y hy => Nat.lt_of_le_of_lt (h.head y hy) (Nat.lt_of_not_le hx)
      omega
/-- a place lies below cnt l exactly if its level is l or more -/
theorem Dn.lt_cnt {l : Nat} : ∀ {ls : List Nat} {p x : Nat}, Dn ls → ls[p]? = some x → (p < cnt l ls ↔ l ≤ x)
  | [], p, x, _, e => by simp at e
  | y :: r, 0, x, h, e => by
    have : y = x := by simpa using e
    subst this
    rw [cnt_cons]
    by_cases hx : l ≤ y
    · rw [if_pos hx]; omega
    · rw [if_neg hx, cnt_none l r fun z hz => Nat.lt_of_le_of_lt (h.head z hz) (Nat.lt_of_not_le hx)]
      omega
  | y :: r, p + 1, x, h, e => by
    have e' : r[p]? = some x := by simpa using e
    have ih := Dn.lt_cnt (l := l) h.tail e'
    rw [cnt_cons]
    by_cases hy : l ≤ y
    · rw [if_pos hy, ← ih]; omega
    · rw [if_neg hy, cnt_none l r fun z hz => Nat.lt_of_le_of_lt (h.head z hz) (Nat.lt_of_not_le hy)]
      have hxy : x ≤ y := h.head x (List.mem_of_getElem? e')
      omega

/-! ### places -/
def Pl (l : Nat) : List Un → Nat → Prop
  | [], x => x = 0
  | u :: us, x => x = 0 ∨ (x < u.2 ∧ isG u ∧ 2 ^ l ∣ x) ∨ (u.2 ≤ x ∧ (isG u → 2 ^ l ∣ u.2) ∧ Pl l us (x - u.2))
def PosU (U : List Un) : Prop := ∀ u ∈ U, 1 ≤ u.2
def P1 (U : List Un) : Prop := ∀ u ∈ U, ¬ isG u → u.2 = 1
theorem Pl.zero (l : Nat) (U : List Un) : Pl l U 0 := by cases U with
  | nil => rfl
  | cons u us => exact .inl rfl
theorem Fit.pl {l : Nat} : ∀ {U : List Un} {ls : List Nat}, PosU U → P1 U → Dn ls → Fit U ls → Pl l U (cnt l ls)
  | [], ls, _, _, _, h => by rw [show ls = [] from h]; rfl
  | u :: us, ls, hp, h1, hd, h => by
    obtain ⟨f1, f2, f3⟩ := h
    have ih := Fit.pl (l := l) (fun v hv => hp v (List.mem_cons_of_mem _ hv)) (fun v hv => h1 v (List.mem_cons_of_mem _ hv)) (hd.drop u.2) f3
    obtain ⟨c1, c2⟩ := Dn.cnt_take (l := l) u.2 hd
    rw [c2] at ih
    by_cases hx : cnt l ls < u.2
    · by_cases hg : isG u
      · have := f2 hg l
        rw [c1, Nat.min_eq_right (Nat.le_of_lt hx)] at this
        exact .inr (.inl ⟨hx, hg, this⟩)
      · have := h1 u List.mem_cons_self hg
        exact .inl (by omega)
    · refine .inr (.inr ⟨Nat.le_of_not_lt hx, fun hg => ?_, ih⟩)
      have := f2 hg l
      rw [c1, Nat.min_eq_left (Nat.le_of_not_lt hx)] at this
      exact this
theorem fit_of_pl : ∀ {U : List Un} {ls : List Nat}, PosU U → Dn ls → ls.length = tot U → (∀ l, Pl l U (cnt l ls)) → Fit U ls
  | [], ls, _, _, hl, _ => List.length_eq_zero_iff.mp hl
  | u :: us, ls, hp, hd, hl, h => by
    have hl' : ls.length = u.2 + tot us := hl
    have hu : 1 ≤ u.2 := hp u List.mem_cons_self
    refine ⟨by omega, fun hg l => ?_, fit_of_pl (fun v hv => hp v (List.mem_cons_of_mem _ hv)) (hd.drop u.2) (by rw [List.length_drop]; omega) fun l => ?_⟩
    · obtain ⟨c1, c2⟩ := Dn.cnt_take (l := l) u.2 hd
      rw [c1]
      rcases h l with e | ⟨e1, _, e3⟩ | ⟨e1, e2, _⟩
      · rw [e, Nat.min_eq_right (Nat.zero_le _)]; exact ⟨0, by omega⟩
      · rw [Nat.min_eq_right (Nat.le_of_lt e1)]; exact e3
      · rw [Nat.min_eq_left e1]; exact e2 hg
    · obtain ⟨c1, c2⟩ := Dn.cnt_take (l := l) u.2 hd
      rw [c2]
      rcases h l with e | ⟨e1, _, e3⟩ | ⟨e1, e2, e3⟩
      · rw [e, Nat.zero_sub]; exact Pl.zero l us
      · rw [Nat.sub_eq_zero_of_le (Nat.le_of_lt e1)]; exact Pl.zero l us
      · exact e3
end Sl

end
section
set_option linter.all false
set_option autoImplicit false
namespace Sl
/-! ### the places of a text -/
def gwU : Nat → List Un → Nat → Option (Nat × Nat)
  | _, [], _ => none
  | off, u :: us, p => if p < off + u.2 then (if isG u then some (off, u.2) else none) else gwU (off + u.2) us p
def lpU (l : Nat) : Nat → List Un → Nat
  | off, [] => off
  | off, u :: us => if isG u ∧ ¬ 2 ^ l ∣ u.2 then off + u.2 / 2 ^ l * 2 ^ l else lpU l (off + u.2) us
def beG (l p : Nat) : Option (Nat × Nat) → Nat
  | none => p + 1
  | some g => g.1 + ((p - g.1) / 2 ^ l + 1) * 2 ^ l
def puG (l f : Nat) : Option (Nat × Nat) → Nat
  | none => f
  | some g => g.1 + (f - g.1) / 2 ^ l * 2 ^ l
def be (l : Nat) (U : List Un) (p : Nat) : Nat := beG l p (gwU 0 U p)
def pu (l : Nat) (U : List Un) (x : Nat) : Nat := puG l (min x (lpU l 0 U)) (gwU 0 U (min x (lpU l 0 U)))

theorem lt_div_succ (q d : Nat) (hd : 0 < d) : q < (q / d + 1) * d := by
  have h1 := Nat.div_add_mod q d
  have h2 := Nat.mod_lt q hd
  rw [Nat.succ_mul, Nat.mul_comm (q / d) d]
  omega
theorem next_le {q d z : Nat} (hd : 0 < d) (h : d ∣ z) (hq : q < z) : (q / d + 1) * d ≤ z := by
  obtain ⟨k, rfl⟩ := h
  have : q / d < k := Nat.div_lt_of_lt_mul hq
  rw [Nat.mul_comm d k]
  exact Nat.mul_le_mul_right d this
theorem dvd_le_div {t f d : Nat} (h : d ∣ t) (hf : t ≤ f) (hd : 0 < d) : t ≤ f / d * d := by
  obtain ⟨k, rfl⟩ := h
  have : k ≤ f / d := (Nat.le_div_iff_mul_le hd).mpr (by rw [Nat.mul_comm]; exact hf)
  rw [Nat.mul_comm d k]
  exact Nat.mul_le_mul_right d this
theorem div_lt_of_not {z d : Nat} (h : ¬ d ∣ z) : z / d * d < z := by
  have h1 := Nat.div_mul_le_self z d
  rcases Nat.lt_or_eq_of_le h1 with h2 | h2
  · exact h2
  · exact absurd ⟨z / d, by rw [Nat.mul_comm]; exact h2.symm⟩ h

theorem lp_ge (l : Nat) : ∀ (U : List Un) (off : Nat), off ≤ lpU l off U
  | [], off => Nat.le_refl _
  | u :: us, off => by
    unfold lpU
    split
    · omega
    · have := lp_ge l us (off + u.2); omega
theorem lp_le (l : Nat) : ∀ (U : List Un) (off : Nat), lpU l off U ≤ off + tot U
  | [], off => Nat.le_refl _
  | u :: us, off => by
    unfold lpU
    show _ ≤ off + (u.2 + tot us)
    split
    · have := Nat.div_mul_le_self u.2 (2 ^ l); omega
    · have := lp_le l us (off + u.2); omega
theorem lp_max {l : Nat} : ∀ {U : List Un} {off y : Nat}, Pl l U (y - off) → y ≤ lpU l off U
  | [], off, y, h => by
    have e : y - off = 0 := h
    show y ≤ off
    omega
  | u :: us, off, y, h => by
    have hg := lp_ge l (u :: us) off
    unfold lpU
    unfold lpU at hg
    split
    · rename_i hn
      rw [if_pos hn] at hg
      rcases h with e | ⟨e1, e2, e3⟩ | ⟨e1, e2, e3⟩
      · omega
      · have := dvd_le_div e3 (Nat.le_of_lt e1) (Nat.two_pow_pos l)
        omega
      · exact absurd (e2 hn.1) hn.2
    · rename_i hn
      rw [if_neg hn] at hg
      have h2 := lp_ge l us (off + u.2)
      rcases h with e | ⟨e1, e2, e3⟩ | ⟨e1, e2, e3⟩
      · omega
      · omega
      · rw [Nat.sub_sub] at e3
        exact lp_max e3
theorem lp_pl (l : Nat) : ∀ (U : List Un) (off : Nat), PosU U → Pl l U (lpU l off U - off)
  | [], off, _ => Nat.sub_self _
  | u :: us, off, hp => by
    unfold lpU
    split
    · rename_i hn
      rw [Nat.add_sub_cancel_left]
      exact .inr (.inl ⟨div_lt_of_not hn.2, hn.1, ⟨_, Nat.mul_comm _ _⟩⟩)
    · rename_i hn
      have ih := lp_pl l us (off + u.2) fun v hv => hp v (List.mem_cons_of_mem _ hv)
      have h2 := lp_ge l us (off + u.2)
      rw [← Nat.sub_sub] at ih
      refine .inr (.inr ⟨by omega, fun hg => ?_, ih⟩)
      by_cases hd : 2 ^ l ∣ u.2
      · exact hd
      · exact absurd ⟨hg, hd⟩ hn
theorem be_spec {l : Nat} : ∀ {U : List Un} {off p : Nat}, P1 U → off ≤ p → p < off + tot U →
    p < beG l p (gwU off U p) ∧ (∀ y, Pl l U (y - off) → p < y → beG l p (gwU off U p) ≤ y) ∧ (beG l p (gwU off U p) ≤ lpU l off U → Pl l U (beG l p (gwU off U p) - off))
  | [], off, p, _, h1, h2 => by
    have : tot [] = 0 := rfl
    omega
  | u :: us, off, p, hp1, h1, h2 => by
    have h2' : p < off + (u.2 + tot us) := h2
    have hd : 0 < 2 ^ l := Nat.two_pow_pos l
    unfold gwU
    by_cases hp : p < off + u.2
    · rw [if_pos hp]
      by_cases hg : isG u
      · rw [if_pos hg]
        show p < off + ((p - off) / 2 ^ l + 1) * 2 ^ l ∧ (∀ y, Pl l (u :: us) (y - off) → p < y → off + ((p - off) / 2 ^ l + 1) * 2 ^ l ≤ y) ∧ (off + ((p - off) / 2 ^ l + 1) * 2 ^ l ≤ lpU l off (u :: us) → Pl l (u :: us) (off + ((p - off) / 2 ^ l + 1) * 2 ^ l - off))
        have a1 := lt_div_succ (p - off) (2 ^ l) hd
        refine ⟨by omega, fun y hy hpy => ?_, fun hb => ?_⟩
        · rcases hy with e | ⟨e1, e2, e3⟩ | ⟨e1, e2, e3⟩
          · omega
          · have := next_le (q := p - off) hd e3 (by omega)
            omega
          · have := next_le (q := p - off) hd (e2 hg) (by omega)
            omega
        · rw [Nat.add_sub_cancel_left]
          unfold lpU at hb
          by_cases hz : 2 ^ l ∣ u.2
          · have := next_le (q := p - off) hd hz (by omega)
            rcases Nat.lt_or_eq_of_le this with c | c
            · exact .inr (.inl ⟨c, hg, ⟨_, Nat.mul_comm _ _⟩⟩)
            · rw [c]
              exact .inr (.inr ⟨Nat.le_refl _, fun _ => hz, by rw [Nat.sub_self]; exact Pl.zero l us⟩)
          · rw [if_pos ⟨hg, hz⟩] at hb
            have := div_lt_of_not hz
            exact .inr (.inl ⟨by omega, hg, ⟨_, Nat.mul_comm _ _⟩⟩)
      · rw [if_neg hg]
        have z := hp1 u List.mem_cons_self hg
        show p < p + 1 ∧ (∀ y, Pl l (u :: us) (y - off) → p < y → p + 1 ≤ y) ∧ (p + 1 ≤ lpU l off (u :: us) → Pl l (u :: us) (p + 1 - off))
        refine ⟨by omega, fun y _ hy => hy, fun _ => .inr (.inr ⟨by omega, fun q => absurd q hg, ?_⟩)⟩
        have : p + 1 - off - u.2 = 0 := by omega
        rw [this]
        exact Pl.zero l us
    · rw [if_neg hp]
      obtain ⟨i1, i2, i3⟩ := be_spec (l := l) (U := us) (off := off + u.2) (p := p) (fun v hv => hp1 v (List.mem_cons_of_mem _ hv)) (by omega) (by omega)
      refine ⟨i1, fun y hy hpy => ?_, fun hb => ?_⟩
      · refine i2 y ?_ hpy
        rcases hy with e | ⟨e1, e2, e3⟩ | ⟨e1, e2, e3⟩
        · omega
        · omega
        · rw [Nat.sub_sub] at e3; exact e3
      · unfold lpU at hb
        by_cases hn : isG u ∧ ¬ 2 ^ l ∣ u.2
        · rw [if_pos hn] at hb
          have := div_lt_of_not hn.2
          omega
        · rw [if_neg hn] at hb
          have := i3 hb
          refine .inr (.inr ⟨by omega, fun hg => ?_, by rw [Nat.sub_sub]; exact this⟩)
          by_cases hz : 2 ^ l ∣ u.2
          · exact hz
          · exact absurd ⟨hg, hz⟩ hn
theorem pu_spec {l : Nat} : ∀ {U : List Un} {off f : Nat}, P1 U → off ≤ f → f ≤ lpU l off U →
    off ≤ puG l f (gwU off U f) ∧ puG l f (gwU off U f) ≤ f ∧ Pl l U (puG l f (gwU off U f) - off) ∧ (∀ y, Pl l U (y - off) → y ≤ f → y ≤ puG l f (gwU off U f))
  | [], off, f, _, h1, h2 => by
    have e : f ≤ off := h2
    refine ⟨h1, Nat.le_refl _, ?_, fun y _ h => h⟩
    show f - off = 0
    omega
  | u :: us, off, f, hp1, h1, h2 => by
    have hd : 0 < 2 ^ l := Nat.two_pow_pos l
    unfold gwU
    by_cases hf : f < off + u.2
    · rw [if_pos hf]
      by_cases hg : isG u
      · rw [if_pos hg]
        show off ≤ off + (f - off) / 2 ^ l * 2 ^ l ∧ off + (f - off) / 2 ^ l * 2 ^ l ≤ f ∧ Pl l (u :: us) (off + (f - off) / 2 ^ l * 2 ^ l - off) ∧ (∀ y, Pl l (u :: us) (y - off) → y ≤ f → y ≤ off + (f - off) / 2 ^ l * 2 ^ l)
        have := Nat.div_mul_le_self (f - off) (2 ^ l)
        refine ⟨by omega, by omega, ?_, fun y hy hyf => ?_⟩
        · rw [Nat.add_sub_cancel_left]
          exact .inr (.inl ⟨by omega, hg, ⟨_, Nat.mul_comm _ _⟩⟩)
        · rcases hy with e | ⟨e1, e2, e3⟩ | ⟨e1, e2, e3⟩
          · omega
          · have := dvd_le_div (f := f - off) e3 (by omega) hd
            omega
          · omega
      · rw [if_neg hg]
        have z := hp1 u List.mem_cons_self hg
        refine ⟨h1, Nat.le_refl _, ?_, fun y _ h => h⟩
        show Pl l (u :: us) (f - off)
        exact .inl (by omega)
    · rw [if_neg hf]
      have hn : ¬ (isG u ∧ ¬ 2 ^ l ∣ u.2) := fun hn => by
        unfold lpU at h2
        rw [if_pos hn] at h2
        have := div_lt_of_not hn.2
        omega
      unfold lpU at h2
      rw [if_neg hn] at h2
      obtain ⟨i1, i2, i3, i4⟩ := pu_spec (l := l) (U := us) (off := off + u.2) (f := f) (fun v hv => hp1 v (List.mem_cons_of_mem _ hv)) (by omega) h2
      refine ⟨by omega, i2, .inr (.inr ⟨by omega, fun hg => ?_, by rw [Nat.sub_sub]; exact i3⟩), fun y hy hyf => ?_⟩
      · by_cases hz : 2 ^ l ∣ u.2
        · exact hz
        · exact absurd ⟨hg, hz⟩ hn
      · rcases hy with e | ⟨e1, e2, e3⟩ | ⟨e1, e2, e3⟩
        · omega
        · omega
        · rw [Nat.sub_sub] at e3
          exact i4 y e3 hyf
/-- what is used of these -/
structure Un.Ok (U : List Un) : Prop where
  pos : PosU U
  p1 : P1 U
section
variable {U : List Un} {l p x y : Nat}
theorem be_lt (h : P1 U) (hp : p < tot U) : p < be l U p := (be_spec (l := l) (off := 0) h (Nat.zero_le _) (by omega)).1
theorem be_le (h : P1 U) (hp : p < tot U) (hy : Pl l U y) (hpy : p < y) : be l U p ≤ y := (be_spec (l := l) (off := 0) h (Nat.zero_le _) (by omega)).2.1 y hy hpy
theorem be_pl (h : P1 U) (hp : p < tot U) (hb : be l U p ≤ lpU l 0 U) : Pl l U (be l U p) := (be_spec (l := l) (off := 0) h (Nat.zero_le _) (by omega)).2.2 hb
theorem le_lp (hy : Pl l U y) : y ≤ lpU l 0 U := lp_max (off := 0) hy
theorem pu_le (h : P1 U) : pu l U x ≤ x := Nat.le_trans (pu_spec (l := l) (off := 0) h (Nat.zero_le _) (Nat.min_le_right _ _)).2.1 (Nat.min_le_left _ _)
theorem pu_pl (h : P1 U) : Pl l U (pu l U x) := (pu_spec (l := l) (off := 0) (f := min x (lpU l 0 U)) h (Nat.zero_le _) (Nat.min_le_right _ _)).2.2.1
theorem pu_max (h : P1 U) (hy : Pl l U y) (hyx : y ≤ x) : y ≤ pu l U x := (pu_spec (l := l) (off := 0) h (Nat.zero_le _) (Nat.min_le_right _ _)).2.2.2 y hy (Nat.le_min.mpr ⟨hyx, le_lp hy⟩)
end
theorem Pl.le_tot {l : Nat} {U : List Un} {y : Nat} (h : Pl l U y) : y ≤ tot U := by
  have h1 := lp_max (off := 0) h
  have h2 := lp_le l U 0
  omega
theorem Pl.mono {l m : Nat} (hlm : l ≤ m) : ∀ {U : List Un} {y : Nat}, Pl m U y → Pl l U y
  | [], y, h => h
  | u :: us, y, h => by
    have hd : 2 ^ l ∣ 2 ^ m := Nat.pow_dvd_pow 2 hlm
    rcases h with e | ⟨e1, e2, e3⟩ | ⟨e1, e2, e3⟩
    · exact .inl e
    · exact .inr (.inl ⟨e1, e2, Nat.dvd_trans hd e3⟩)
    · exact .inr (.inr ⟨e1, fun q => Nat.dvd_trans hd (e2 q), e3.mono hlm⟩)
theorem Pl.tot (U : List Un) (hp : PosU U) : Pl 0 U (tot U) := by
  induction U with
  | nil => rfl
  | cons u us ih =>
    refine .inr (.inr ⟨?_, fun _ => ⟨u.2, by simp⟩, ?_⟩)
    · show u.2 ≤ u.2 + Sl.tot us
      omega
    · show Pl 0 us (u.2 + Sl.tot us - u.2)
      rw [Nat.add_sub_cancel_left]
      exact ih fun v hv => hp v (List.mem_cons_of_mem _ hv)
theorem Pl0 : ∀ {U : List Un} {y : Nat}, P1 U → y ≤ Sl.tot U → Pl 0 U y
  | [], y, _, h => by
    have : y ≤ 0 := h
    show y = 0
    omega
  | u :: us, y, hp, h => by
    have h' : y ≤ u.2 + Sl.tot us := h
    by_cases e : y = 0
    · exact .inl e
    · by_cases hy : u.2 ≤ y
      · exact .inr (.inr ⟨hy, fun _ => ⟨u.2, by simp⟩, Pl0 (fun v hv => hp v (List.mem_cons_of_mem _ hv)) (by omega)⟩)
      · by_cases hg : isG u
        · exact .inr (.inl ⟨by omega, hg, ⟨y, by simp⟩⟩)
        · have := hp u List.mem_cons_self hg
          omega
end Sl

end
section
set_option linter.all false
set_option autoImplicit false
namespace Sl
/-! ### a row and its levels -/
def Anti (r : Nat → Nat) : Prop := ∀ l, r (l + 1) ≤ r l
theorem Anti.le {r : Nat → Nat} (h : Anti r) {l : Nat} : ∀ k, r (l + k) ≤ r l
  | 0 => Nat.le_refl _
  | k + 1 => Nat.le_trans (h (l + k)) (h.le k)
theorem Anti.mono {r : Nat → Nat} (h : Anti r) {l m : Nat} (hm : l ≤ m) : r m ≤ r l := by
  have := h.le (l := l) (m - l)
  rwa [Nat.add_sub_cancel' hm] at this
def stk (r : Nat → Nat) : Nat → List Nat
  | 0 => List.replicate (r 0 - r 1) 0
  | k + 1 => List.replicate (r (k + 1) - r (k + 2)) (k + 1) ++ stk r k
theorem stk_le (r : Nat → Nat) : ∀ (k : Nat), ∀ x ∈ stk r k, x ≤ k
  | 0, x, h => by
    have := List.eq_of_mem_replicate h
    omega
  | k + 1, x, h => by
    rcases List.mem_append.mp h with h | h
    · have := List.eq_of_mem_replicate h
      omega
    · have := stk_le r k x h
      omega
theorem stk_dn (r : Nat → Nat) : ∀ k, Dn (stk r k)
  | 0 => Dn.rep _ _
  | k + 1 => by
    refine List.pairwise_append.mpr ⟨Dn.rep _ _, stk_dn r k, fun a ha b hb => ?_⟩
    have h1 := List.eq_of_mem_replicate ha
    have h2 := stk_le r k b hb
    omega
theorem stk_cnt {r : Nat → Nat} (h : Anti r) (l : Nat) : ∀ k, cnt l (stk r k) = r l - r (k + 1)
  | 0 => by
    show cnt l (List.replicate _ 0) = _
    rw [cnt_rep]
    by_cases e : l ≤ 0
    · rw [if_pos e]
      have : l = 0 := by omega
      rw [this]
    · rw [if_neg e]
      have := h.mono (show 0 + 1 ≤ l by omega)
      omega
  | k + 1 => by
    show cnt l (List.replicate _ (k + 1) ++ stk r k) = _
    rw [cnt_app, cnt_rep, stk_cnt h l k]
    have h1 : r (k + 2) ≤ r (k + 1) := h (k + 1)
    by_cases e : l ≤ k + 1
    · rw [if_pos e]
      have := h.mono e
      show r (k + 1) - r (k + 2) + (r l - r (k + 1)) = r l - r (k + 2)
      omega
    · rw [if_neg e]
      have := h.mono (show k + 2 ≤ l by omega)
      have := h.mono (show k + 1 ≤ k + 2 by omega)
      show 0 + (r l - r (k + 1)) = r l - r (k + 2)
      omega
theorem stk_len {r : Nat → Nat} (h : Anti r) (k : Nat) : (stk r k).length = r 0 - r (k + 1) := by
  rw [← cnt_zero, stk_cnt h]
/-- the level at a place -/
def lev (ls : List Nat) (p : Nat) : Nat := ls.getD p 0
theorem lev_get {ls : List Nat} {p : Nat} (h : p < ls.length) : ls[p]? = some (lev ls p) := by
  unfold lev
  rw [List.getD_eq_getElem?_getD, List.getElem?_eq_getElem h]
  rfl
theorem lt_cnt {ls : List Nat} {p l : Nat} (hd : Dn ls) (h : p < ls.length) : p < cnt l ls ↔ l ≤ lev ls p := hd.lt_cnt (lev_get h)
theorem lev_le {ls : List Nat} {p E : Nat} (h : p < ls.length) (hE : ∀ x ∈ ls, x ≤ E) : lev ls p ≤ E := hE _ (List.mem_of_getElem? (lev_get h))
/-- level_in of a row -/
def levIn (row : List Nat) (p : Nat) : Nat := row.countP (fun x => decide (p < x))
def rowL (r : Nat → Nat) (E : Nat) : List Nat := (List.range E).map fun i => r (i + 1)
theorem countP_range (x : Nat) : ∀ E : Nat, (List.range E).countP (fun i => decide (i + 1 ≤ x)) = min E x
  | 0 => by simp
  | E + 1 => by
    rw [List.range_succ, List.countP_append, countP_range x E, List.countP_cons, List.countP_nil]
    by_cases h : E + 1 ≤ x
    · rw [if_pos (decide_eq_true h)]; omega
    · have : ¬ decide (E + 1 ≤ x) = true := by simpa using h
      rw [if_neg this]; omega
theorem levIn_row {ls : List Nat} {p E : Nat} {r : Nat → Nat} (hd : Dn ls) (h : p < ls.length) (hE : ∀ x ∈ ls, x ≤ E) (hr : ∀ l, 1 ≤ l → l ≤ E → r l = cnt l ls) : levIn (rowL r E) p = lev ls p := by
  unfold levIn rowL
  rw [List.countP_map]
  have e : (List.range E).countP ((fun x => decide (p < x)) ∘ fun i => r (i + 1)) = (List.range E).countP (fun i => decide (i + 1 ≤ lev ls p)) := by
    refine List.countP_congr fun i hi => ?_
    have hi' := List.mem_range.mp hi
    show decide (p < r (i + 1)) = true ↔ _
    rw [hr (i + 1) (by omega) (by omega)]
    simp only [decide_eq_true_eq]
    exact lt_cnt hd h
  rw [e, countP_range]
  exact Nat.min_eq_right (lev_le h hE)

/-! ### histories of a text, as levels -/
structure Hl (U : List Un) (E : Nat) (ls : List Nat) : Prop where
  fit : Fit U ls
  dn : Dn ls
  le : ∀ x ∈ ls, x ≤ E
structure UOk (U : List Un) : Prop where
  pos : PosU U
  p1 : P1 U
section
variable {U : List Un} {E : Nat} {ls : List Nat}
theorem Hl.len (h : Hl U E ls) : ls.length = tot U := h.fit.len
theorem Hl.pl (h : Hl U E ls) (o : UOk U) (l : Nat) : Pl l U (cnt l ls) := h.fit.pl o.pos o.p1 h.dn
theorem Hl.above (h : Hl U E ls) {l : Nat} (hl : E < l) : cnt l ls = 0 := cnt_none l ls fun y hy => Nat.lt_of_le_of_lt (h.le y hy) hl
theorem cnt_anti (ls : List Nat) : Anti fun l => cnt l ls := fun l => cnt_mono (Nat.le_succ l) ls
/-- what a row must be -/
structure Rw (U : List Un) (E : Nat) (r : Nat → Nat) : Prop where
  anti : Anti r
  zero : r 0 = tot U
  top : r (E + 1) = 0
  pl : ∀ l, Pl l U (r l)
theorem Rw.cnt {r : Nat → Nat} (h : Rw U E r) (l : Nat) : cnt l (stk r E) = r l := by
  rw [stk_cnt h.anti, h.top, Nat.sub_zero]
theorem Rw.hl {r : Nat → Nat} (h : Rw U E r) (o : UOk U) : Hl U E (stk r E) := by
  refine ⟨fit_of_pl o.pos (stk_dn r E) ?_ fun l => ?_, stk_dn r E, stk_le r E⟩
  · rw [stk_len h.anti, h.top, h.zero, Nat.sub_zero]
  · rw [h.cnt]; exact h.pl l
theorem Rw.len {r : Nat → Nat} (h : Rw U E r) : (stk r E).length = tot U := by
  rw [stk_len h.anti, h.top, h.zero, Nat.sub_zero]
theorem lev_mono {a b : List Nat} (ha : Dn a) (hb : Dn b) (hl : a.length = b.length) (h : ∀ l, Sl.cnt l a ≤ Sl.cnt l b) {p : Nat} (hp : p < a.length) : lev a p ≤ lev b p := by
  have h1 : p < Sl.cnt (lev a p) a := (lt_cnt ha hp).mpr (Nat.le_refl _)
  exact (lt_cnt hb (hl ▸ hp)).mp (Nat.lt_of_lt_of_le h1 (h _))
theorem lev_eq {a b : List Nat} (ha : Dn a) (hb : Dn b) (hl : a.length = b.length) (h : ∀ l, Sl.cnt l a = Sl.cnt l b) {p : Nat} (hp : p < a.length) : lev a p = lev b p :=
  Nat.le_antisymm (lev_mono ha hb hl (fun l => Nat.le_of_eq (h l)) hp) (lev_mono hb ha hl.symm (fun l => Nat.le_of_eq (h l).symm) (hl ▸ hp))
end

/-! ### bounds -/
abbrev Bd := Option (Bool × Nat × Nat)
def poss (U : List Un) (E : Nat) : Bd → Bool
  | none => true
  | some (lo, p, k) => !lo || (decide (k ≤ E) && decide (be k U p ≤ lpU k 0 U))
def contr (U : List Un) : Bd → Bd → Bool
  | some (true, p, k), some (false, q, m) => decide (m < k) && decide (q < be k U p)
  | some (false, q, m), some (true, p, k) => decide (m < k) && decide (q < be k U p)
  | _, _ => false
def sat (ls : List Nat) : Bd → Bool
  | none => true
  | some (true, p, k) => decide (k ≤ lev ls p)
  | some (false, p, k) => decide (lev ls p ≤ k)
def BdOk (U : List Un) : Bd → Prop
  | none => True
  | some (_, p, _) => p < tot U
section
variable {U : List Un} {E : Nat} {ls : List Nat}
theorem sat_low (h : Hl U E ls) {p k : Nat} (hp : p < tot U) (hs : sat ls (some (true, p, k)) = true) : p < cnt k ls :=
  (lt_cnt h.dn (h.len ▸ hp)).mpr (of_decide_eq_true hs)
theorem sat_up (h : Hl U E ls) {p k : Nat} (hp : p < tot U) : sat ls (some (false, p, k)) = true ↔ cnt (k + 1) ls ≤ p := by
  have h1 := lt_cnt (l := k + 1) h.dn (h.len ▸ hp)
  show decide (lev ls p ≤ k) = true ↔ _
  rw [decide_eq_true_eq]
  omega
theorem sat_low_iff (h : Hl U E ls) {p k : Nat} (hp : p < tot U) : sat ls (some (true, p, k)) = true ↔ p < cnt k ls := by
  rw [lt_cnt h.dn (h.len ▸ hp)]
  exact decide_eq_true_iff
/-- what a history satisfies is possible -/
theorem poss_of_sat (o : UOk U) (h : Hl U E ls) {b : Bd} (hb : BdOk U b) (hs : sat ls b = true) : poss U E b = true := by
  match b, hb, hs with
  | none, _, _ => rfl
  | some (false, p, k), _, _ => rfl
  | some (true, p, k), hb, hs =>
    have h1 := sat_low h hb hs
    have h2 : k ≤ E := by
      rcases Nat.lt_or_ge E k with q | q
      · rw [h.above q] at h1; omega
      · exact q
    have h3 := be_le o.p1 hb (h.pl o k) h1
    have h4 := le_lp (h.pl o k)
    show (false || (decide (k ≤ E) && decide (be k U p ≤ lpU k 0 U))) = true
    rw [decide_eq_true h2, decide_eq_true (Nat.le_trans h3 h4)]
    rfl
theorem contr_low (o : UOk U) (h : Hl U E ls) {p k q m : Nat} (hp : p < tot U) (hq : q < tot U) (h1 : sat ls (some (true, p, k)) = true) (h2 : sat ls (some (false, q, m)) = true) : (decide (m < k) && decide (q < be k U p)) = false := by
  have a := sat_low h hp h1
  have b := (sat_up h hq).mp h2
  by_cases hmk : m < k
  · have c := be_le o.p1 hp (h.pl o k) a
    have d := cnt_mono (show m + 1 ≤ k by omega) ls
    rw [decide_eq_true hmk, decide_eq_false (by omega)]
    rfl
  · rw [decide_eq_false hmk]
    rfl
theorem contr_of_sat (o : UOk U) (h : Hl U E ls) {b c : Bd} (hb : BdOk U b) (hc : BdOk U c) (h1 : sat ls b = true) (h2 : sat ls c = true) : contr U b c = false := by
  match b, c, hb, hc, h1, h2 with
  | none, _, _, _, _, _ => rfl
  | some (true, _, _), none, _, _, _, _ => rfl
  | some (false, _, _), none, _, _, _, _ => rfl
  | some (true, _, _), some (true, _, _), _, _, _, _ => rfl
  | some (false, _, _), some (false, _, _), _, _, _, _ => rfl
  | some (true, p, k), some (false, q, m), hb, hc, h1, h2 => exact contr_low o h hb hc h1 h2
  | some (false, q, m), some (true, p, k), hb, hc, h1, h2 => exact contr_low o h hc hb h2 h1

/-! ### the least and the greatest row -/
def lows (U : List Un) (bs : List Bd) (l : Nat) : List Nat := bs.filterMap fun b => match b with
  | some (true, p, k) => if l ≤ k then some (be k U p) else none
  | _ => none
def ups (bs : List Bd) (l : Nat) : List Nat := bs.filterMap fun b => match b with
  | some (false, q, m) => if m < l then some q else none
  | _ => none
def maxL (d : Nat) (xs : List Nat) : Nat := xs.foldl max d
def minL (d : Nat) (xs : List Nat) : Nat := xs.foldl min d
theorem maxL_ge (d : Nat) : ∀ xs : List Nat, d ≤ maxL d xs ∧ ∀ x ∈ xs, x ≤ maxL d xs := by
  intro xs
  unfold maxL
  induction xs generalizing d with
  | nil => exact ⟨Nat.le_refl _, fun _ h => nomatch h⟩
  | cons y r ih =>
    obtain ⟨h1, h2⟩ := ih (max d y)
    refine ⟨Nat.le_trans (Nat.le_max_left _ _) h1, fun x hx => ?_⟩
    rcases List.mem_cons.mp hx with e | hx
    · subst e; exact Nat.le_trans (Nat.le_max_right _ _) h1
    · exact h2 x hx
theorem maxL_mem (d : Nat) : ∀ xs : List Nat, maxL d xs = d ∨ maxL d xs ∈ xs := by
  intro xs
  unfold maxL
  induction xs generalizing d with
  | nil => exact .inl rfl
  | cons y r ih =>
    rw [List.foldl_cons]
    rcases ih (max d y) with h | h
    · rw [h]
      rcases Nat.le_total d y with q | q
      · rw [Nat.max_eq_right q]; exact .inr List.mem_cons_self
      · rw [Nat.max_eq_left q]; exact .inl rfl
    · exact .inr (List.mem_cons_of_mem _ h)
theorem minL_le (d : Nat) : ∀ xs : List Nat, minL d xs ≤ d ∧ ∀ x ∈ xs, minL d xs ≤ x := by
  intro xs
  unfold minL
  induction xs generalizing d with
  | nil => exact ⟨Nat.le_refl _, fun _ h => nomatch h⟩
  | cons y r ih =>
    obtain ⟨h1, h2⟩ := ih (min d y)
    refine ⟨Nat.le_trans h1 (Nat.min_le_left _ _), fun x hx => ?_⟩
    rcases List.mem_cons.mp hx with e | hx
    · subst e; exact Nat.le_trans h1 (Nat.min_le_right _ _)
    · exact h2 x hx
theorem le_minL {d z : Nat} (hd : z ≤ d) : ∀ {xs : List Nat}, (∀ x ∈ xs, z ≤ x) → z ≤ minL d xs := by
  intro xs
  unfold minL
  induction xs generalizing d with
  | nil => intro _; exact hd
  | cons y r ih =>
    intro h
    exact ih (Nat.le_min.mpr ⟨hd, h y List.mem_cons_self⟩) fun x hx => h x (List.mem_cons_of_mem _ hx)
theorem maxL_le {d z : Nat} (hd : d ≤ z) : ∀ {xs : List Nat}, (∀ x ∈ xs, x ≤ z) → maxL d xs ≤ z := by
  intro xs
  unfold maxL
  induction xs generalizing d with
  | nil => intro _; exact hd
  | cons y r ih =>
    intro h
    exact ih (Nat.max_le.mpr ⟨hd, h y List.mem_cons_self⟩) fun x hx => h x (List.mem_cons_of_mem _ hx)
def lowR (U : List Un) (bs : List Bd) (l : Nat) : Nat := maxL 0 (lows U bs l)
def upR (U : List Un) (bs : List Bd) (l : Nat) : Nat := pu l U (minL (tot U) (ups bs l))
theorem mem_lows {bs : List Bd} {l y : Nat} : y ∈ lows U bs l ↔ ∃ p k, some (true, p, k) ∈ bs ∧ l ≤ k ∧ y = be k U p := by
  unfold lows
  rw [List.mem_filterMap]
  constructor
  · rintro ⟨b, hb, e⟩
    match b, hb, e with
    | some (true, p, k), hb, e =>
      have e' : (if l ≤ k then some (be k U p) else none) = some y := e
      by_cases h : l ≤ k
      · rw [if_pos h] at e'
        exact ⟨p, k, hb, h, (Option.some.inj e').symm⟩
      · rw [if_neg h] at e'; cases e'
    | some (false, p, k), _, e => cases e
    | none, _, e => cases e
  · rintro ⟨p, k, hb, h, rfl⟩
    exact ⟨_, hb, by show (if l ≤ k then some (be k U p) else none) = _; rw [if_pos h]⟩
theorem mem_ups {bs : List Bd} {l y : Nat} : y ∈ ups bs l ↔ ∃ m, some (false, y, m) ∈ bs ∧ m < l := by
  unfold ups
  rw [List.mem_filterMap]
  constructor
  · rintro ⟨b, hb, e⟩
    match b, hb, e with
    | some (false, q, m), hb, e =>
      have e' : (if m < l then some q else none) = some y := e
      by_cases h : m < l
      · rw [if_pos h] at e'
        cases e'
        exact ⟨m, hb, h⟩
      · rw [if_neg h] at e'; cases e'
    | some (true, p, k), _, e => cases e
    | none, _, e => cases e
  · rintro ⟨m, hb, h⟩
    exact ⟨_, hb, by show (if m < l then some y else none) = _; rw [if_pos h]⟩
/-- no bound is impossible, no two contradict -/
structure Cons (U : List Un) (E : Nat) (bs : List Bd) : Prop where
  ok : ∀ b ∈ bs, BdOk U b
  poss : ∀ b ∈ bs, poss U E b = true
  con : ∀ p k q m, some (true, p, k) ∈ bs → some (false, q, m) ∈ bs → m < k → be k U p ≤ q
theorem Cons.pos {bs : List Bd} (c : Cons U E bs) {p k : Nat} (h : some (true, p, k) ∈ bs) : k ≤ E ∧ be k U p ≤ lpU k 0 U := by
  have := c.poss _ h
  have h2 : (false || (decide (k ≤ E) && decide (be k U p ≤ lpU k 0 U))) = true := this
  rw [Bool.false_or, Bool.and_eq_true, decide_eq_true_eq, decide_eq_true_eq] at h2
  exact h2
theorem Cons.low (o : UOk U) {bs : List Bd} (c : Cons U E bs) : Rw U E (fun l => if l = 0 then tot U else lowR U bs l) := by
  have pl : ∀ l, Pl l U (lowR U bs l) := fun l => by
    rcases maxL_mem 0 (lows U bs l) with e | e
    · show Pl l U (maxL 0 (lows U bs l))
      rw [e]; exact Pl.zero l U
    · obtain ⟨p, k, hb, hl, e2⟩ := mem_lows.mp e
      show Pl l U (maxL 0 (lows U bs l))
      rw [e2]
      exact (be_pl o.p1 (c.ok _ hb) (c.pos hb).2).mono hl
  refine ⟨fun l => ?_, rfl, ?_, fun l => ?_⟩
  · show (if l + 1 = 0 then tot U else lowR U bs (l + 1)) ≤ if l = 0 then tot U else lowR U bs l
    rw [if_neg (Nat.succ_ne_zero l)]
    by_cases e : l = 0
    · rw [if_pos e]; exact (pl (l + 1)).le_tot
    · rw [if_neg e]
      refine maxL_le (Nat.zero_le _) fun x hx => ?_
      obtain ⟨p, k, hb, hl, rfl⟩ := mem_lows.mp hx
      exact (maxL_ge 0 (lows U bs l)).2 _ (mem_lows.mpr ⟨p, k, hb, by omega, rfl⟩)
  · show (if E + 1 = 0 then tot U else lowR U bs (E + 1)) = 0
    rw [if_neg (Nat.succ_ne_zero E)]
    refine Nat.le_zero.mp (maxL_le (Nat.le_refl _) fun x hx => ?_)
    obtain ⟨p, k, hb, hl, rfl⟩ := mem_lows.mp hx
    have := (c.pos hb).1
    omega
  · show Pl l U (if l = 0 then tot U else lowR U bs l)
    by_cases e : l = 0
    · rw [if_pos e, e]; exact Pl0 o.p1 (Nat.le_refl _)
    · rw [if_neg e]; exact pl l
def upE (U : List Un) (E : Nat) (bs : List Bd) (l : Nat) : Nat := if l = 0 then tot U else if l ≤ E then upR U bs l else 0
def lowE (U : List Un) (bs : List Bd) (l : Nat) : Nat := if l = 0 then tot U else lowR U bs l
theorem up_rw (o : UOk U) (bs : List Bd) : Rw U E (upE U E bs) := by
  have pl : ∀ l, Pl l U (upR U bs l) := fun l => pu_pl o.p1
  refine ⟨fun l => ?_, rfl, ?_, fun l => ?_⟩
  · unfold upE
    rw [if_neg (Nat.succ_ne_zero l)]
    by_cases h1 : l + 1 ≤ E
    · rw [if_pos h1]
      by_cases e : l = 0
      · rw [if_pos e]; exact (pl (l + 1)).le_tot
      · rw [if_neg e, if_pos (by omega)]
        refine pu_max o.p1 ((pl (l + 1)).mono (Nat.le_succ l)) ?_
        refine Nat.le_trans (pu_le o.p1) (le_minL (minL_le _ _).1 fun x hx => ?_)
        obtain ⟨m, hb, hm⟩ := mem_ups.mp hx
        exact (minL_le (tot U) (ups bs (l + 1))).2 x (mem_ups.mpr ⟨m, hb, by omega⟩)
    · rw [if_neg h1]; exact Nat.zero_le _
  · unfold upE
    rw [if_neg (Nat.succ_ne_zero E), if_neg (by omega)]
  · unfold upE
    by_cases e : l = 0
    · rw [if_pos e, e]; exact Pl0 o.p1 (Nat.le_refl _)
    · rw [if_neg e]
      by_cases h : l ≤ E
      · rw [if_pos h]; exact pl l
      · rw [if_neg h]; exact Pl.zero l U
def lowLs (U : List Un) (E : Nat) (bs : List Bd) : List Nat := stk (lowE U bs) E
def upLs (U : List Un) (E : Nat) (bs : List Bd) : List Nat := stk (upE U E bs) E
theorem Cons.low_sat (o : UOk U) {bs : List Bd} (c : Cons U E bs) : ∀ b ∈ bs, sat (lowLs U E bs) b = true := fun b hb => by
  have R : Rw U E (lowE U bs) := c.low o
  have H := R.hl o
  match b, hb with
  | none, _ => rfl
  | some (true, p, k), hb =>
    refine (sat_low_iff H (c.ok _ hb)).mpr ?_
    rw [R.cnt]
    unfold lowE
    by_cases e : k = 0
    · rw [if_pos e]; exact c.ok _ hb
    · rw [if_neg e]
      have h1 := (maxL_ge 0 (lows U bs k)).2 _ (mem_lows.mpr ⟨p, k, hb, Nat.le_refl _, rfl⟩)
      exact Nat.lt_of_lt_of_le (be_lt o.p1 (c.ok _ hb)) h1
  | some (false, q, m), hb =>
    refine (sat_up H (c.ok _ hb)).mpr ?_
    rw [R.cnt]
    unfold lowE
    rw [if_neg (Nat.succ_ne_zero m)]
    refine maxL_le (Nat.zero_le _) fun x hx => ?_
    obtain ⟨p, k, hb2, hl, rfl⟩ := mem_lows.mp hx
    exact c.con p k q m hb2 hb (by omega)
theorem Cons.up_sat (o : UOk U) {bs : List Bd} (c : Cons U E bs) : ∀ b ∈ bs, sat (upLs U E bs) b = true := fun b hb => by
  have R : Rw U E (upE U E bs) := up_rw o bs
  have H := R.hl o
  match b, hb with
  | none, _ => rfl
  | some (true, p, k), hb =>
    refine (sat_low_iff H (c.ok _ hb)).mpr ?_
    rw [R.cnt]
    unfold upE
    by_cases e : k = 0
    · rw [if_pos e]; exact c.ok _ hb
    · rw [if_neg e, if_pos (c.pos hb).1]
      have h1 := be_pl o.p1 (c.ok _ hb) (c.pos hb).2
      refine Nat.lt_of_lt_of_le (be_lt o.p1 (c.ok _ hb)) (pu_max o.p1 h1 (le_minL h1.le_tot fun x hx => ?_))
      obtain ⟨m, hb2, hm⟩ := mem_ups.mp hx
      exact c.con p k x m hb hb2 hm
  | some (false, q, m), hb =>
    refine (sat_up H (c.ok _ hb)).mpr ?_
    rw [R.cnt]
    unfold upE
    rw [if_neg (Nat.succ_ne_zero m)]
    by_cases h : m + 1 ≤ E
    · rw [if_pos h]
      exact Nat.le_trans (pu_le o.p1) ((minL_le _ _).2 q (mem_ups.mpr ⟨m, hb, by omega⟩))
    · rw [if_neg h]; exact Nat.zero_le _
theorem low_le (o : UOk U) {bs : List Bd} (h : Hl U E ls) (ok : ∀ b ∈ bs, BdOk U b) (hs : ∀ b ∈ bs, sat ls b = true) (l : Nat) : lowE U bs l ≤ cnt l ls := by
  unfold lowE
  by_cases e : l = 0
  · rw [if_pos e, e, cnt_zero, h.len]; exact Nat.le_refl _
  · rw [if_neg e]
    refine maxL_le (Nat.zero_le _) fun x hx => ?_
    obtain ⟨p, k, hb, hl, rfl⟩ := mem_lows.mp hx
    exact Nat.le_trans (be_le o.p1 (ok _ hb) (h.pl o k) (sat_low h (ok _ hb) (hs _ hb))) (cnt_mono hl ls)
theorem le_up (o : UOk U) {bs : List Bd} (h : Hl U E ls) (ok : ∀ b ∈ bs, BdOk U b) (hs : ∀ b ∈ bs, sat ls b = true) (l : Nat) : cnt l ls ≤ upE U E bs l := by
  unfold upE
  by_cases e : l = 0
  · rw [if_pos e, e, cnt_zero, h.len]; exact Nat.le_refl _
  · rw [if_neg e]
    by_cases hl : l ≤ E
    · rw [if_pos hl]
      refine pu_max o.p1 (h.pl o l) (le_minL (h.pl o l).le_tot fun x hx => ?_)
      obtain ⟨m, hb, hm⟩ := mem_ups.mp hx
      exact Nat.le_trans (cnt_mono (show m + 1 ≤ l by omega) ls) ((sat_up h (ok _ hb)).mp (hs _ hb))
    · rw [if_neg hl, h.above (by omega)]; exact Nat.le_refl _
/-- if the bounds hold together, none is impossible and no two contradict -/
theorem cons_of_sat (o : UOk U) {bs : List Bd} (h : Hl U E ls) (ok : ∀ b ∈ bs, BdOk U b) (hs : ∀ b ∈ bs, sat ls b = true) : Cons U E bs := by
  refine ⟨ok, fun b hb => poss_of_sat o h (ok b hb) (hs b hb), fun p k q m hb hb2 hm => ?_⟩
  have := contr_low o h (ok _ hb) (ok _ hb2) (hs _ hb) (hs _ hb2)
  rw [decide_eq_true hm, Bool.true_and] at this
  have := of_decide_eq_false this
  omega
end

/-! ### contradictions, as the program finds them -/
def fstI (f : Nat → Bool) (n : Nat) : Option Nat := (List.range n).find? f
theorem fstI_none {f : Nat → Bool} {n : Nat} (h : ∀ i, i < n → f i = false) : fstI f n = none :=
  List.find?_eq_none.mpr fun i hi => by rw [h i (List.mem_range.mp hi)]; exact Bool.false_ne_true
theorem fstI_some {f : Nat → Bool} : ∀ {n k : Nat}, (∀ i, i < k → f i = false) → f k = true → k < n → fstI f n = some k
  | 0, k, _, _, h => by omega
  | n + 1, k, h1, h2, h => by
    unfold fstI
    rw [List.range_succ, List.find?_append]
    by_cases e : k < n
    · have := fstI_some (n := n) h1 h2 e
      unfold fstI at this
      rw [this]; rfl
    · have : k = n := by omega
      subst this
      have := fstI_none (n := k) h1
      unfold fstI at this
      rw [this]
      simp [h2]
theorem fstI_spec {f : Nat → Bool} {n k : Nat} (h : fstI f n = some k) : f k = true ∧ k < n :=
  ⟨List.find?_some h, List.mem_range.mp (List.mem_of_find?_eq_some h)⟩
theorem fstI_all {f : Nat → Bool} {n : Nat} (h : fstI f n = none) : ∀ i, i < n → f i = false := fun i hi => by
  have := List.find?_eq_none.mp h i (List.mem_range.mpr hi)
  simpa using this
def bat (bs : List Bd) (i : Nat) : Bd := bs.getD i none
def ctrI (U : List Un) (E : Nat) (bs : List Bd) : Option Nat := fstI (fun i => !poss U E (bat bs i)) bs.length
def ctrR (U : List Un) (bs : List Bd) (i : Nat) : Option Nat := fstI (fun j => decide (i < j) && contr U (bat bs i) (bat bs j)) bs.length
def ctrJ (U : List Un) (bs : List Bd) : Option Nat := fstI (fun i => (ctrR U bs i).isSome) bs.length
def ctr (U : List Un) (E : Nat) (bs : List Bd) : Option (List Nat) :=
  match ctrI U E bs with
  | some i => some [i]
  | none => match ctrJ U bs with
    | some i => (ctrR U bs i).map fun j => [i, j]
    | none => none
theorem bat_mem {bs : List Bd} {i : Nat} (h : i < bs.length) : bat bs i ∈ bs := by
  unfold bat
  rw [List.getD_eq_getElem?_getD, List.getElem?_eq_getElem h]
  exact List.getElem_mem h
theorem bat_of {bs : List Bd} {b : Bd} (h : b ∈ bs) : ∃ i, i < bs.length ∧ bat bs i = b := by
  obtain ⟨i, hi, e⟩ := List.getElem_of_mem h
  exact ⟨i, hi, by unfold bat; rw [List.getD_eq_getElem?_getD, List.getElem?_eq_getElem hi, e]; rfl⟩
section
variable {U : List Un} {E : Nat} {bs : List Bd}
theorem contr_comm (b c : Bd) : contr U b c = contr U c b := by
  match b, c with
  | none, none => rfl
  | none, some (true, _, _) => rfl
  | none, some (false, _, _) => rfl
  | some (true, _, _), none => rfl
  | some (false, _, _), none => rfl
  | some (true, _, _), some (true, _, _) => rfl
  | some (true, _, _), some (false, _, _) => rfl
  | some (false, _, _), some (true, _, _) => rfl
  | some (false, _, _), some (false, _, _) => rfl
theorem contr_self (b : Bd) : contr U b b = false := by
  match b with
  | none => rfl
  | some (true, _, _) => rfl
  | some (false, _, _) => rfl
/-- no contradiction is found: the bounds are consistent -/
theorem ctr_none (ok : ∀ b ∈ bs, BdOk U b) : ctr U E bs = none ↔ Cons U E bs := by
  constructor
  · intro h
    unfold ctr at h
    cases e1 : ctrI U E bs with
    | some i => rw [e1] at h; cases h
    | none =>
      rw [e1] at h
      cases e2 : ctrJ U bs with
      | some i =>
        rw [e2] at h
        have q := (fstI_spec e2).1
        cases e3 : ctrR U bs i with
        | none => rw [e3] at q; cases q
        | some j =>
          have h' : (ctrR U bs i).map (fun j => [i, j]) = none := h
          rw [e3] at h'; cases h'
      | none =>
        have a1 := fstI_all e1
        have a2 := fstI_all e2
        have pair : ∀ i j, i < bs.length → j < bs.length → i < j → contr U (bat bs i) (bat bs j) = false := fun i j hi hj hij => by
          have q := a2 i hi
          cases e3 : ctrR U bs i with
          | some _ => rw [e3] at q; cases q
          | none =>
            have := fstI_all e3 j hj
            rw [decide_eq_true hij, Bool.true_and] at this
            exact this
        refine ⟨ok, fun b hb => ?_, fun p k q m hb hb2 hm => ?_⟩
        · obtain ⟨i, hi, e⟩ := bat_of hb
          have := a1 i hi
          rw [e] at this
          simpa using this
        · obtain ⟨i, hi, ei⟩ := bat_of hb
          obtain ⟨j, hj, ej⟩ := bat_of hb2
          have hc : contr U (some (true, p, k)) (some (false, q, m)) = false := by
            rcases Nat.lt_trichotomy i j with z | z | z
            · have := pair i j hi hj z
              rw [ei, ej] at this
              exact this
            · rw [z, ej] at ei
              cases ei
            · have := pair j i hj hi z
              rw [ei, ej, contr_comm] at this
              exact this
          have hc2 : (decide (m < k) && decide (q < be k U p)) = false := hc
          rw [decide_eq_true hm, Bool.true_and] at hc2
          have := of_decide_eq_false hc2
          omega
  · intro c
    have h1 : ctrI U E bs = none := fstI_none fun i hi => by
      rw [c.poss _ (bat_mem hi)]; rfl
    have hc : ∀ b d, b ∈ bs → d ∈ bs → contr U b d = false := fun b d hb hd => by
      match b, d, hb, hd with
      | none, _, _, _ => rfl
      | some (true, _, _), none, _, _ => rfl
      | some (false, _, _), none, _, _ => rfl
      | some (true, _, _), some (true, _, _), _, _ => rfl
      | some (false, _, _), some (false, _, _), _, _ => rfl
      | some (true, p, k), some (false, q, m), hb, hd =>
        show (decide (m < k) && decide (q < be k U p)) = false
        by_cases hm : m < k
        · have := c.con p k q m hb hd hm
          rw [decide_eq_false (show ¬ q < be k U p by omega), Bool.and_false]
        · rw [decide_eq_false hm]; rfl
      | some (false, q, m), some (true, p, k), hb, hd =>
        show (decide (m < k) && decide (q < be k U p)) = false
        by_cases hm : m < k
        · have := c.con p k q m hd hb hm
          rw [decide_eq_false (show ¬ q < be k U p by omega), Bool.and_false]
        · rw [decide_eq_false hm]; rfl
    have h2 : ctrJ U bs = none := fstI_none fun i hi => by
      have : ctrR U bs i = none := fstI_none fun j hj => by rw [hc _ _ (bat_mem hi) (bat_mem hj), Bool.and_false]
      rw [this]; rfl
    unfold ctr
    rw [h1, h2]
/-- what is found: one index or two rising ones, and the bounds there contradict -/
theorem ctr_some {r : List Nat} (h : ctr U E bs = some r) : (∃ i, r = [i] ∧ i < bs.length ∧ poss U E (bat bs i) = false) ∨
    ∃ i j, r = [i, j] ∧ i < j ∧ j < bs.length ∧ contr U (bat bs i) (bat bs j) = true := by
  unfold ctr at h
  cases e1 : ctrI U E bs with
  | some i =>
    rw [e1] at h
    have h' : some [i] = some r := h
    cases h'
    obtain ⟨a, b⟩ := fstI_spec e1
    exact .inl ⟨i, rfl, b, by simpa using a⟩
  | none =>
    rw [e1] at h
    cases e2 : ctrJ U bs with
    | none => rw [e2] at h; cases h
    | some i =>
      rw [e2] at h
      have h' : (ctrR U bs i).map (fun j => [i, j]) = some r := h
      cases e3 : ctrR U bs i with
      | none => rw [e3] at h'; cases h'
      | some j =>
        rw [e3] at h'
        have h2 : some [i, j] = some r := h'
        cases h2
        obtain ⟨a, b⟩ := fstI_spec e3
        rw [Bool.and_eq_true, decide_eq_true_eq] at a
        exact .inr ⟨i, j, rfl, a.1, b, a.2⟩
/-- the bounds at what is found contradict by themselves -/
theorem ctr_sub {r : List Nat} (ok : ∀ b ∈ bs, BdOk U b) (h : ctr U E bs = some r) : ctr U E (r.map (bat bs)) ≠ none := by
  have sub : ∀ b ∈ r.map (bat bs), b ∈ bs := fun b hb => by
    obtain ⟨i, hi, rfl⟩ := List.mem_map.mp hb
    rcases ctr_some h with ⟨k, rfl, hk, _⟩ | ⟨j, k, rfl, hjk, hk, _⟩
    · have : i = k := by simpa using hi
      rw [this]; exact bat_mem hk
    · have : i = j ∨ i = k := by simpa using hi
      rcases this with e | e
      · rw [e]; exact bat_mem (by omega)
      · rw [e]; exact bat_mem hk
  intro hn
  have c := (ctr_none fun b hb => ok b (sub b hb)).mp hn
  rcases ctr_some h with ⟨k, rfl, hk, hp⟩ | ⟨j, k, rfl, hjk, hk, hc⟩
  · have := c.poss (bat bs k) (by simp)
    rw [hp] at this; cases this
  · have a : bat bs j ∈ [j, k].map (bat bs) := by simp
    have b : bat bs k ∈ [j, k].map (bat bs) := by simp
    generalize bat bs j = x at a hc
    generalize bat bs k = y at b hc
    match x, y, hc with
    | some (true, p, k), some (false, q, m), hc =>
      have hc2 : (decide (m < k) && decide (q < be k U p)) = true := hc
      rw [Bool.and_eq_true, decide_eq_true_eq, decide_eq_true_eq] at hc2
      have := c.con p k q m a b hc2.1
      omega
    | some (false, q, m), some (true, p, k), hc =>
      have hc2 : (decide (m < k) && decide (q < be k U p)) = true := hc
      rw [Bool.and_eq_true, decide_eq_true_eq, decide_eq_true_eq] at hc2
      have := c.con p k q m b a hc2.1
      omega
    | some (true, _, _), some (true, _, _), hc => cases hc
    | some (false, _, _), some (false, _, _), hc => cases hc
    | none, _, hc => cases hc
    | some (true, _, _), none, hc => cases hc
    | some (false, _, _), none, hc => cases hc
end
end Sl

end
section
set_option linter.all false
set_option autoImplicit false
namespace Sl
section
variable {U : List Un} {E : Nat} {bs : List Bd} {ls : List Nat}
theorem Cons.snoc {b : Bd} (c : Cons U E bs) (hb : BdOk U b) (hp : Sl.poss U E b = true) (h1 : ∀ p k q m, b = some (true, p, k) → some (false, q, m) ∈ bs → m < k → be k U p ≤ q) (h2 : ∀ p k q m, b = some (false, q, m) → some (true, p, k) ∈ bs → m < k → be k U p ≤ q) :
    Cons U E (bs ++ [b]) := by
  refine ⟨fun d hd => ?_, fun d hd => ?_, fun p k q m a d hm => ?_⟩
  · rcases List.mem_append.mp hd with z | z
    · exact c.ok d z
    · rw [List.mem_singleton.mp z]; exact hb
  · rcases List.mem_append.mp hd with z | z
    · exact c.poss d z
    · rw [List.mem_singleton.mp z]; exact hp
  · rcases List.mem_append.mp a with z | z <;> rcases List.mem_append.mp d with y | y
    · exact c.con p k q m z y hm
    · exact h2 p k q m (List.mem_singleton.mp y).symm z hm
    · exact h1 p k q m (List.mem_singleton.mp z).symm y hm
    · have e := List.mem_singleton.mp z
      rw [← List.mem_singleton.mp y] at e
      cases e
theorem Cons.init {b : Bd} (c : Cons U E (bs ++ [b])) : Cons U E bs :=
  ⟨fun d hd => c.ok d (List.mem_append_left _ hd), fun d hd => c.poss d (List.mem_append_left _ hd), fun p k q m a d hm => c.con p k q m (List.mem_append_left _ a) (List.mem_append_left _ d) hm⟩
theorem Cons.lowHl (o : UOk U) (c : Cons U E bs) : Hl U E (lowLs U E bs) := (c.low o).hl o
theorem upHl (o : UOk U) : Hl U E (upLs U E bs) := (up_rw o bs).hl o
theorem Cons.low_up (o : UOk U) (c : Cons U E bs) {p : Nat} (hp : p < tot U) : lev (lowLs U E bs) p ≤ lev (upLs U E bs) p := by
  have H := c.lowHl o
  have H2 := upHl (E := E) (bs := bs) o
  refine lev_mono H.dn H2.dn (H.len.trans H2.len.symm) (fun l => ?_) (by rw [H.len]; exact hp)
  have := le_up o H c.ok (c.low_sat o) l
  rw [show cnt l (upLs U E bs) = upE U E bs l from (up_rw o bs).cnt l]
  exact this
theorem low_lev (o : UOk U) (c : Cons U E bs) (h : Hl U E ls) (hs : ∀ b ∈ bs, sat ls b = true) {p : Nat} (hp : p < tot U) : lev (lowLs U E bs) p ≤ lev ls p := by
  have H := c.lowHl o
  refine lev_mono H.dn h.dn (H.len.trans h.len.symm) (fun l => ?_) (by rw [H.len]; exact hp)
  rw [show cnt l (lowLs U E bs) = lowE U bs l from (c.low o).cnt l]
  exact low_le o h c.ok hs l
theorem up_lev (o : UOk U) (c : Cons U E bs) (h : Hl U E ls) (hs : ∀ b ∈ bs, sat ls b = true) {p : Nat} (hp : p < tot U) : lev ls p ≤ lev (upLs U E bs) p := by
  have H := upHl (E := E) (bs := bs) o
  refine lev_mono h.dn H.dn (h.len.trans H.len.symm) (fun l => ?_) (by rw [h.len]; exact hp)
  rw [show cnt l (upLs U E bs) = upE U E bs l from (up_rw o bs).cnt l]
  exact le_up o h c.ok hs l
def imp (U : List Un) (E : Nat) (bs : List Bd) (b : Bd) : Bool := sat (lowLs U E bs) b && sat (upLs U E bs) b
/-- a bound and its opposite -/
inductive Opp : Bd → Bd → Prop
  | low (p k : Nat) : Opp (some (true, p, k + 1)) (some (false, p, k))
  | up (p k : Nat) : Opp (some (false, p, k)) (some (true, p, k + 1))
  | no (p : Nat) : Opp none (some (true, p, 201))
  | ins (p : Nat) : Opp (some (true, p, 201)) none
theorem imp_opp (o : UOk U) (hE : E ≤ 200) (c : Cons U E bs) {b d : Bd} (hb : BdOk U b) (hd : BdOk U d) (hop : Opp b d) : imp U E bs b = (ctr U E (bs ++ [d])).isSome := by
  have okd : ∀ x ∈ bs ++ [d], BdOk U x := fun x hx => (List.mem_append.mp hx).elim (c.ok x) fun z => by rw [List.mem_singleton.mp z]; exact hd
  have key : ((ctr U E (bs ++ [d])).isSome = false) ↔ Cons U E (bs ++ [d]) := by
    rw [← ctr_none okd]
    cases ctr U E (bs ++ [d]) with
    | none => exact ⟨fun _ => rfl, fun _ => rfl⟩
    | some r => exact ⟨fun z => (nomatch z), fun z => (nomatch z)⟩
  have R := c.low o
  have H := c.lowHl o
  have R2 := up_rw (E := E) o bs
  have H2 := upHl (E := E) (bs := bs) o
  have goal : ((imp U E bs b = false) ↔ Cons U E (bs ++ [d])) → imp U E bs b = (ctr U E (bs ++ [d])).isSome := fun z => by
    cases h1 : imp U E bs b with
    | false => exact (key.mpr (z.mp h1)).symm
    | true =>
      cases h2 : (ctr U E (bs ++ [d])).isSome with
      | true => rfl
      | false =>
        have := z.mpr (key.mp h2)
        rw [h1] at this; cases this
  refine goal ?_
  cases hop with
  | low p k =>
    have hp : p < tot U := hb
    have hlu := c.low_up o hp
    have e : imp U E bs (some (true, p, k + 1)) = false ↔ ¬ k + 1 ≤ lev (lowLs U E bs) p := by
      show (decide (k + 1 ≤ lev (lowLs U E bs) p) && decide (k + 1 ≤ lev (upLs U E bs) p)) = false ↔ _
      by_cases h : k + 1 ≤ lev (lowLs U E bs) p
      · rw [decide_eq_true h, decide_eq_true (show k + 1 ≤ lev (upLs U E bs) p by omega)]
        exact ⟨fun z => (nomatch z), fun z => absurd h z⟩
      · rw [decide_eq_false h]
        exact ⟨fun _ => h, fun _ => rfl⟩
    rw [e]
    have e2 : ¬ k + 1 ≤ lev (lowLs U E bs) p ↔ lowR U bs (k + 1) ≤ p := by
      rw [← lt_cnt (l := k + 1) H.dn (H.len ▸ hp), show cnt (k + 1) (lowLs U E bs) = lowR U bs (k + 1) from R.cnt (k + 1)]
      omega
    rw [e2]
    constructor
    · intro h
      refine c.snoc hd rfl (fun _ _ _ _ z => nomatch z) fun p' k' q m z hb2 hm => ?_
      cases z
      exact Nat.le_trans ((maxL_ge 0 (lows U bs (k + 1))).2 _ (mem_lows.mpr ⟨p', k', hb2, hm, rfl⟩)) h
    · intro h
      refine maxL_le (Nat.zero_le _) fun x hx => ?_
      obtain ⟨p', k', hb2, hl, rfl⟩ := mem_lows.mp hx
      exact h.con p' k' p k (List.mem_append_left _ hb2) (List.mem_append_right _ (List.mem_singleton.mpr rfl)) (by omega)
  | up p k =>
    have hp : p < tot U := hb
    have hlu := c.low_up o hp
    have e : imp U E bs (some (false, p, k)) = false ↔ k + 1 ≤ lev (upLs U E bs) p := by
      show (decide (lev (lowLs U E bs) p ≤ k) && decide (lev (upLs U E bs) p ≤ k)) = false ↔ _
      by_cases h : lev (upLs U E bs) p ≤ k
      · rw [decide_eq_true h, decide_eq_true (show lev (lowLs U E bs) p ≤ k by omega)]
        exact ⟨fun z => (nomatch z), fun z => by omega⟩
      · rw [decide_eq_false h, Bool.and_false]
        exact ⟨fun _ => by omega, fun _ => rfl⟩
    rw [e, ← lt_cnt (l := k + 1) H2.dn (H2.len ▸ hp), show cnt (k + 1) (upLs U E bs) = upE U E bs (k + 1) from R2.cnt (k + 1)]
    unfold upE
    rw [if_neg (Nat.succ_ne_zero k)]
    constructor
    · intro h
      by_cases hk : k + 1 ≤ E
      · rw [if_pos hk] at h
        have pl : Pl (k + 1) U (upR U bs (k + 1)) := pu_pl o.p1
        have b1 := be_le o.p1 hp pl h
        refine c.snoc hd ?_ (fun p' k' q m z hb2 hm => ?_) (fun _ _ _ _ z => nomatch z)
        · show (false || (decide (k + 1 ≤ E) && decide (be (k + 1) U p ≤ lpU (k + 1) 0 U))) = true
          rw [decide_eq_true hk, decide_eq_true (Nat.le_trans b1 (le_lp pl))]
          rfl
        · cases z
          exact Nat.le_trans b1 (Nat.le_trans (pu_le o.p1) ((minL_le _ _).2 q (mem_ups.mpr ⟨m, hb2, hm⟩)))
      · rw [if_neg hk] at h; omega
    · intro h
      have mem : some (true, p, k + 1) ∈ bs ++ [some (true, p, k + 1)] := List.mem_append_right _ (List.mem_singleton.mpr rfl)
      have pos := h.pos mem
      rw [if_pos pos.1]
      have pl := be_pl o.p1 hp pos.2
      refine Nat.lt_of_lt_of_le (be_lt (l := k + 1) o.p1 hp) (pu_max o.p1 pl (le_minL pl.le_tot fun x hx => ?_))
      obtain ⟨m, hb2, hm⟩ := mem_ups.mp hx
      exact h.con p (k + 1) x m mem (List.mem_append_left _ hb2) hm
  | no p =>
    refine ⟨fun z => (nomatch (show true = false from z)), fun h => ?_⟩
    have := (h.pos (List.mem_append_right _ (List.mem_singleton.mpr rfl))).1
    omega
  | ins p =>
    have hp : p < tot U := hb
    refine ⟨fun _ => c.snoc trivial rfl (fun _ _ _ _ z => nomatch z) (fun _ _ _ _ z => nomatch z), fun _ => ?_⟩
    have := lev_le (ls := lowLs U E bs) (p := p) (H.len ▸ hp) H.le
    show (decide (201 ≤ lev (lowLs U E bs) p) && decide (201 ≤ lev (upLs U E bs) p)) = false
    rw [decide_eq_false (by omega)]
    rfl
/-- what is implied holds for every history that satisfies the bounds -/
theorem imp_sat (o : UOk U) (c : Cons U E bs) (h : Hl U E ls) (hs : ∀ b ∈ bs, sat ls b = true) {b : Bd} (hb : BdOk U b) (hi : imp U E bs b = true) : sat ls b = true := by
  obtain ⟨h1, h2⟩ := Bool.and_eq_true_iff.mp (show (sat (lowLs U E bs) b && sat (upLs U E bs) b) = true from hi)
  match b, hb, h1, h2 with
  | none, _, _, _ => rfl
  | some (true, p, k), hb, h1, h2 =>
    have := low_lev o c h hs (p := p) hb
    have a : k ≤ lev (lowLs U E bs) p := of_decide_eq_true h1
    exact decide_eq_true (show k ≤ lev ls p by omega)
  | some (false, p, k), hb, h1, h2 =>
    have := up_lev o c h hs (p := p) hb
    have a : lev (upLs U E bs) p ≤ k := of_decide_eq_true h2
    exact decide_eq_true (show lev ls p ≤ k by omega)
end
end Sl

end
section
set_option linter.all false
set_option autoImplicit false
namespace Sl
/-! ### runs: neighbours of one key joined (where the key may be joined) -/
section
variable {κ : Type} [DecidableEq κ] {mg : κ → Bool}
def addR (mg : κ → Bool) (rs : List (κ × Nat)) (k : κ) (c : Nat) : List (κ × Nat) :=
  if c = 0 then rs else match rs.getLast? with
  | some x => if x.1 = k ∧ mg k = true then rs.dropLast ++ [(k, x.2 + c)] else rs ++ [(k, c)]
  | none => [(k, c)]
def exR (rs : List (κ × Nat)) : List κ := rs.flatMap fun x => List.replicate x.2 x.1
def rn (mg : κ → Bool) (xs : List κ) : List (κ × Nat) := xs.foldl (fun rs k => addR mg rs k 1) []
theorem exR_nil : exR ([] : List (κ × Nat)) = [] := rfl
theorem exR_app (a b : List (κ × Nat)) : exR (a ++ b) = exR a ++ exR b := List.flatMap_append
theorem exR_one (k : κ) (c : Nat) : exR [(k, c)] = List.replicate c k := by
  show List.replicate c k ++ [] = _
  rw [List.append_nil]
theorem exR_cons (x : κ × Nat) (r : List (κ × Nat)) : exR (x :: r) = List.replicate x.2 x.1 ++ exR r := rfl
theorem addR_zero (rs : List (κ × Nat)) (k : κ) : addR mg rs k 0 = rs := if_pos rfl
theorem addR_nil (k : κ) {c : Nat} (hc : c ≠ 0) : addR mg [] k c = [(k, c)] := by
  unfold addR; rw [if_neg hc]; rfl
theorem addR_same (pre : List (κ × Nat)) {k : κ} {c d : Nat} (hk : mg k = true) : addR mg (pre ++ [(k, d)]) k c = pre ++ [(k, d + c)] := by
  unfold addR
  by_cases hc : c = 0
  · rw [if_pos hc, hc, Nat.add_zero]
  · rw [if_neg hc, List.getLast?_concat]
    show (if k = k ∧ mg k = true then _ else _) = _
    rw [if_pos ⟨rfl, hk⟩, List.dropLast_concat]
theorem addR_other (pre : List (κ × Nat)) {k j : κ} {c d : Nat} (hc : c ≠ 0) (h : ¬ (j = k ∧ mg k = true)) : addR mg (pre ++ [(j, d)]) k c = pre ++ [(j, d)] ++ [(k, c)] := by
  unfold addR
  rw [if_neg hc, List.getLast?_concat]
  show (if j = k ∧ mg k = true then _ else _) = _
  rw [if_neg h]
theorem nil_or_snoc {α : Type} (l : List α) : l = [] ∨ ∃ L b, l = L ++ [b] := by
  cases h : l.getLast? with
  | none => exact .inl (List.getLast?_eq_none_iff.mp h)
  | some b =>
    obtain ⟨L, hL⟩ := List.getLast?_eq_some_iff.mp h
    exact .inr ⟨L, b, hL⟩
theorem exR_addR (rs : List (κ × Nat)) (k : κ) (c : Nat) : exR (addR mg rs k c) = exR rs ++ List.replicate c k := by
  by_cases hc : c = 0
  · rw [hc, addR_zero]; simp
  · rcases nil_or_snoc rs with e | ⟨L, ⟨j, d⟩, e⟩
    · rw [e, addR_nil k hc, exR_one]; rfl
    · rw [e]
      by_cases h : j = k ∧ mg k = true
      · obtain ⟨rfl, h2⟩ := h
        rw [addR_same L h2, exR_app, exR_app, exR_one, exR_one, List.append_assoc, List.replicate_append_replicate]
      · rw [addR_other L hc h, exR_app (L ++ _), exR_one]
theorem addR_add (rs : List (κ × Nat)) {k : κ} (a b : Nat) (hk : mg k = true) : addR mg (addR mg rs k a) k b = addR mg rs k (a + b) := by
  by_cases ha : a = 0
  · rw [ha, addR_zero, Nat.zero_add]
  · have hab : a + b ≠ 0 := by omega
    rcases nil_or_snoc rs with e | ⟨L, ⟨j, d⟩, e⟩
    · rw [e, addR_nil k ha, addR_nil k hab]
      exact addR_same [] hk
    · rw [e]
      by_cases h : j = k ∧ mg k = true
      · obtain ⟨rfl, h2⟩ := h
        rw [addR_same L h2, addR_same L h2, addR_same L h2, Nat.add_assoc]
      · rw [addR_other L ha h, addR_other L hab h, addR_same _ hk]
theorem rn_snoc (xs : List κ) (k : κ) : rn mg (xs ++ [k]) = addR mg (rn mg xs) k 1 := by
  unfold rn; rw [List.foldl_append]; rfl
theorem rn_rep (xs : List κ) {k : κ} (c : Nat) (hk : mg k = true) : rn mg (xs ++ List.replicate c k) = addR mg (rn mg xs) k c := by
  induction c with
  | zero => rw [addR_zero]; simp
  | succ c ih => rw [List.replicate_succ', ← List.append_assoc, rn_snoc, ih, addR_add _ _ _ hk]
theorem rn_rep1 (xs : List κ) {k : κ} {c : Nat} (hc : c ≤ 1) : rn mg (xs ++ List.replicate c k) = addR mg (rn mg xs) k c := by
  rcases Nat.lt_or_eq_of_le hc with h | h
  · have : c = 0 := by omega
    rw [this, addR_zero]; simp
  · rw [h]; exact rn_snoc xs k
theorem snoc_ind {α : Type} {P : List α → Prop} (h0 : P []) (h1 : ∀ l a, P l → P (l ++ [a])) (l : List α) : P l := by
  have : ∀ n (l : List α), l.length = n → P l := by
    intro n
    induction n with
    | zero =>
      intro l hl
      rw [List.length_eq_zero_iff.mp hl]; exact h0
    | succ n ih =>
      intro l hl
      rcases nil_or_snoc l with e | ⟨L, b, e⟩
      · rw [e] at hl; cases hl
      · rw [e]
        rw [e, List.length_append, List.length_singleton] at hl
        exact h1 L b (ih L (by omega))
  exact this l.length l rfl
theorem exR_rn (xs : List κ) : exR (rn mg xs) = xs := by
  induction xs using snoc_ind with
  | h0 => rfl
  | h1 l a ih => rw [rn_snoc, exR_addR, ih]; rfl
/-- neighbours -/
def Nb {α : Type} (R : α → α → Prop) : List α → Prop
  | [] => True
  | a :: r => (∀ b, r.head? = some b → R a b) ∧ Nb R r
theorem Nb.snoc {α : Type} {R : α → α → Prop} {x : α} : ∀ {l : List α}, Nb R l → (∀ y, l.getLast? = some y → R y x) → Nb R (l ++ [x])
  | [], _, _ => ⟨fun _ h => (nomatch h), trivial⟩
  | [a], _, h => ⟨fun b e => by cases e; exact h a rfl, fun _ e => (nomatch e), trivial⟩
  | a :: b :: r, hN, h => ⟨fun c e => hN.1 c e, Nb.snoc (l := b :: r) hN.2 fun y hy => h y (by rw [List.getLast?_cons_cons]; exact hy)⟩
theorem Nb.init {α : Type} {R : α → α → Prop} {x : α} : ∀ {l : List α}, Nb R (l ++ [x]) → Nb R l ∧ ∀ y, l.getLast? = some y → R y x
  | [], _ => ⟨trivial, fun _ h => (nomatch h)⟩
  | [a], h => ⟨⟨fun _ e => (nomatch e), trivial⟩, fun y e => by cases e; exact h.1 x rfl⟩
  | a :: b :: r, h => by
    obtain ⟨h1, h2⟩ := Nb.init (l := b :: r) h.2
    exact ⟨⟨fun c e => h.1 c e, h1⟩, fun y e => h2 y (by rw [List.getLast?_cons_cons] at e; exact e)⟩
theorem Nb.imp {α : Type} {R S : α → α → Prop} (f : ∀ a b, R a b → S a b) : ∀ {l : List α}, Nb R l → Nb S l
  | [], _ => trivial
  | a :: r, h => ⟨fun b e => f a b (h.1 b e), h.2.imp f⟩
theorem Nb.at {α : Type} {R : α → α → Prop} : ∀ {l : List α} {i : Nat} {a b : α}, Nb R l → l[i]? = some a → l[i + 1]? = some b → R a b
  | [], _, _, _, _, h, _ => by simp at h
  | x :: r, 0, a, b, hN, h1, h2 => by
    have e : x = a := by simpa using h1
    subst e
    refine hN.1 b ?_
    rw [List.head?_eq_getElem?]
    simpa using h2
  | x :: r, i + 1, a, b, hN, h1, h2 => hN.2.at (i := i) (by simpa using h1) (by simpa using h2)
structure Wr (mg : κ → Bool) (rs : List (κ × Nat)) : Prop where
  pos : ∀ x ∈ rs, 1 ≤ x.2
  nb : Nb (fun a b => ¬ (a.1 = b.1 ∧ mg b.1 = true)) rs
theorem Wr.nil : Wr mg ([] : List (κ × Nat)) := ⟨fun _ h => (nomatch h), trivial⟩
theorem Wr.add {rs : List (κ × Nat)} (h : Wr mg rs) (k : κ) (c : Nat) : Wr mg (addR mg rs k c) := by
  by_cases hc : c = 0
  · rw [hc, addR_zero]; exact h
  · rcases nil_or_snoc rs with e | ⟨L, ⟨j, d⟩, e⟩
    · rw [e, addR_nil k hc]
      exact ⟨fun x hx => by rw [List.mem_singleton.mp hx]; show 1 ≤ c; omega, fun _ z => (nomatch z), trivial⟩
    · subst e
      obtain ⟨n1, n2⟩ := h.nb.init
      by_cases hj : j = k ∧ mg k = true
      · obtain ⟨rfl, h2⟩ := hj
        rw [addR_same L h2]
        refine ⟨fun x hx => ?_, n1.snoc fun y hy => n2 y hy⟩
        rcases List.mem_append.mp hx with z | z
        · exact h.pos x (List.mem_append_left _ z)
        · rw [List.mem_singleton.mp z]; show 1 ≤ d + c; omega
      · rw [addR_other L hc hj]
        refine ⟨fun x hx => ?_, h.nb.snoc fun y hy => ?_⟩
        · rcases List.mem_append.mp hx with z | z
          · exact h.pos x z
          · rw [List.mem_singleton.mp z]; show 1 ≤ c; omega
        · rw [List.getLast?_concat] at hy
          cases hy
          exact hj
theorem rn_wr (xs : List κ) : Wr mg (rn mg xs) := by
  induction xs using snoc_ind with
  | h0 => exact Wr.nil
  | h1 l a ih => rw [rn_snoc]; exact ih.add a 1
theorem addR_len (rs : List (κ × Nat)) (k : κ) (c : Nat) : (addR mg rs k c).length ≤ rs.length + 1 ∧ rs.length ≤ (addR mg rs k c).length := by
  by_cases hc : c = 0
  · rw [hc, addR_zero]; omega
  · rcases nil_or_snoc rs with e | ⟨L, ⟨j, d⟩, e⟩
    · rw [e, addR_nil k hc]; simp
    · rw [e]
      by_cases hj : j = k ∧ mg k = true
      · obtain ⟨rfl, h2⟩ := hj
        rw [addR_same L h2]; simp
      · rw [addR_other L hc hj]; simp
/-- well made runs are the runs of what they stand for -/
theorem rn_exR (hm : ∀ k, mg k = true) : ∀ rs : List (κ × Nat), Wr mg rs → rn mg (exR rs) = rs := by
  intro rs
  induction rs using snoc_ind with
  | h0 => intro _; rfl
  | h1 l a ih =>
    intro h
    obtain ⟨n1, n2⟩ := h.nb.init
    have hl : Wr mg l := ⟨fun x hx => h.pos x (List.mem_append_left _ hx), n1⟩
    obtain ⟨k, c⟩ := a
    have hc : c ≠ 0 := by
      have := h.pos (k, c) (by simp)
      show c ≠ 0
      have h2 : 1 ≤ c := this
      omega
    rw [exR_app, exR_one, rn_rep _ _ (hm k), ih hl]
    rcases nil_or_snoc l with e | ⟨L, ⟨j, d⟩, e⟩
    · rw [e, addR_nil k hc]; rfl
    · rw [e, addR_other L hc (n2 (j, d) (by rw [e, List.getLast?_concat]))]
theorem mem_addR {rs : List (κ × Nat)} {k : κ} {c : Nat} {x : κ × Nat} (h : x ∈ addR mg rs k c) : x ∈ rs ∨ x.1 = k := by
  by_cases hc : c = 0
  · rw [hc, addR_zero] at h; exact .inl h
  · rcases nil_or_snoc rs with e | ⟨L, ⟨j, d⟩, e⟩
    · rw [e, addR_nil k hc] at h
      rw [List.mem_singleton.mp h]; exact .inr rfl
    · rw [e] at h ⊢
      by_cases hj : j = k ∧ mg k = true
      · obtain ⟨rfl, h2⟩ := hj
        rw [addR_same L h2] at h
        rcases List.mem_append.mp h with z | z
        · exact .inl (List.mem_append_left _ z)
        · rw [List.mem_singleton.mp z]; exact .inr rfl
      · rw [addR_other L hc hj] at h
        rcases List.mem_append.mp h with z | z
        · exact .inl z
        · rw [List.mem_singleton.mp z]; exact .inr rfl
theorem mem_rn {xs : List κ} {x : κ × Nat} (h : x ∈ rn mg xs) : x.1 ∈ xs := by
  induction xs using snoc_ind generalizing x with
  | h0 => cases h
  | h1 l a ih =>
    rw [rn_snoc] at h
    rcases mem_addR h with z | z
    · exact List.mem_append_left _ (ih z)
    · rw [z]; simp
/-- the count of a run is at most the length -/
theorem mem_exR {rs : List (κ × Nat)} {x : κ × Nat} (h : x ∈ rs) : x.2 ≤ (exR rs).length := by
  obtain ⟨a, b, rfl⟩ := List.append_of_mem h
  rw [exR_app, exR_cons]
  simp only [List.length_append, List.length_replicate]
  omega
end

/-! ### runs of sorted levels -/
abbrev yes {κ : Type} : κ → Bool := fun _ => true
def rl (ls : List Nat) : List (Nat × Nat) := rn yes ls
theorem rl_desc : ∀ {rs : List (Nat × Nat)}, Wr yes rs → Dn (exR rs) → rs.Pairwise (fun a b => b.1 < a.1)
  | [], _, _ => List.Pairwise.nil
  | a :: r, h, hd => by
    have hd2 : Dn (List.replicate a.2 a.1 ++ exR r) := hd
    have hp := List.pairwise_append.mp hd2
    have ha := h.pos a List.mem_cons_self
    have hr : Wr yes r := ⟨fun x hx => h.pos x (List.mem_cons_of_mem _ hx), h.nb.2⟩
    have ih := rl_desc hr hp.2.1
    refine List.pairwise_cons.mpr ⟨?_, ih⟩
    cases r with
    | nil => intro b hb; cases hb
    | cons y r' =>
      have hy := hr.pos y List.mem_cons_self
      have le : y.1 ≤ a.1 := hp.2.2 a.1 (by rw [List.mem_replicate]; omega) y.1 (by
        show y.1 ∈ List.replicate y.2 y.1 ++ exR r'
        exact List.mem_append_left _ (by rw [List.mem_replicate]; omega))
      have ne : a.1 ≠ y.1 := fun e => h.nb.1 y rfl ⟨e, rfl⟩
      have lt : y.1 < a.1 := by omega
      intro b hb
      rcases List.mem_cons.mp hb with e | hb
      · rw [e]; exact lt
      · exact Nat.lt_trans ((List.pairwise_cons.mp ih).1 b hb) lt
theorem desc_len : ∀ {rs : List (Nat × Nat)} {L : Nat}, rs.Pairwise (fun a b => b.1 < a.1) → (∀ x ∈ rs, x.1 < L) → rs.length ≤ L
  | [], _, _, _ => Nat.zero_le _
  | a :: r, L, h, hL => by
    have h1 := List.pairwise_cons.mp h
    have := desc_len (L := a.1) h1.2 h1.1
    have := hL a List.mem_cons_self
    show r.length + 1 ≤ L
    omega
theorem cnt_exR_above {l : Nat} : ∀ {rs : List (Nat × Nat)}, (∀ x ∈ rs, l ≤ x.1) → cnt l (exR rs) = (exR rs).length := fun {rs} h =>
  cnt_all l _ fun y hy => by
    obtain ⟨x, hx, e⟩ := List.mem_flatMap.mp hy
    rw [List.eq_of_mem_replicate e]; exact h x hx
theorem cnt_exR_below {l : Nat} : ∀ {rs : List (Nat × Nat)}, (∀ x ∈ rs, x.1 < l) → cnt l (exR rs) = 0 := fun {rs} h =>
  cnt_none l _ fun y hy => by
    obtain ⟨x, hx, e⟩ := List.mem_flatMap.mp hy
    rw [List.eq_of_mem_replicate e]; exact h x hx
/-- the runs of aligned sorted levels: the count of level l is divisible by 2^l -/
theorem rl_dvd {ls : List Nat} (hd : Dn ls) (ha : Al ls) {x : Nat × Nat} (hx : x ∈ rl ls) : 2 ^ x.1 ∣ x.2 := by
  have hw : Wr yes (rl ls) := rn_wr ls
  have e : exR (rl ls) = ls := exR_rn ls
  have hs := rl_desc hw (by rw [e]; exact hd)
  obtain ⟨a, b, eab⟩ := List.append_of_mem hx
  rw [eab] at hs e
  have hp := List.pairwise_append.mp hs
  have hc := List.pairwise_cons.mp hp.2.1
  have h1 : cnt x.1 ls = (exR a).length + x.2 := by
    rw [← e, exR_app, exR_cons, cnt_app, cnt_app, cnt_rep, if_pos (Nat.le_refl _), cnt_exR_above fun y hy => Nat.le_of_lt (hp.2.2 y hy x List.mem_cons_self), cnt_exR_below hc.1]
    rfl
  have h2 : cnt (x.1 + 1) ls = (exR a).length := by
    rw [← e, exR_app, exR_cons, cnt_app, cnt_app, cnt_rep, if_neg (by omega), cnt_exR_above fun y hy => hp.2.2 y hy x List.mem_cons_self, cnt_exR_below fun y hy => Nat.lt_succ_of_lt (hc.1 y hy)]
    omega
  have d1 := ha x.1
  have d2 := Nat.dvd_trans (Nat.pow_dvd_pow 2 (Nat.le_succ x.1)) (ha (x.1 + 1))
  rw [h1] at d1
  rw [h2] at d2
  exact (Nat.dvd_add_right d2).mp d1
end Sl

end
section
set_option linter.all false
set_option autoImplicit false
namespace Sl
/-! ### the units of a text -/
theorem prs_app_B (w k l : Nat) (cs : List Ch) : prs w (List.replicate k (sB, l) ++ cs) = prs (w + k * 2 ^ l) cs := by
  induction k generalizing w with
  | zero => rw [Nat.zero_mul, Nat.add_zero]; rfl
  | succ k ih =>
    rw [List.replicate_succ, List.cons_append]
    show (if sB = sB then prs (w + 2 ^ l) (List.replicate k (sB, l) ++ cs) else _) = _
    rw [if_pos rfl, ih, Nat.succ_mul]
    congr 1
    omega
theorem prs_Q (w l : Nat) (cs : List Ch) : prs w ((sQ, l) :: cs) = (sQ, w + 2 ^ l) :: prs 0 cs := by
  show (if sQ = sB then _ else if sQ = sQ then _ else _) = _
  rw [if_neg sQB, if_pos rfl]
theorem prs_P (w : Nat) {s : Sy} {l : Nat} (cs : List Ch) (h1 : s ≠ sB) (h2 : s ≠ sQ) : prs w ((s, l) :: cs) = fl w ++ (s, 1) :: prs 0 cs := by
  show (if s = sB then _ else if s = sQ then _ else _) = _
  rw [if_neg h1, if_neg h2]
theorem prs_B (w l : Nat) (cs : List Ch) : prs w ((sB, l) :: cs) = prs (w + 2 ^ l) cs := by
  show (if sB = sB then _ else _) = _
  rw [if_pos rfl]
/-- the closed units so far, and the backslashes that wait -/
def scs (st : List Un × Nat) (c : Ch) : List Un × Nat :=
  if c.1 = sB then (st.1, st.2 + 2 ^ c.2) else if c.1 = sQ then (st.1 ++ [(sQ, st.2 + 2 ^ c.2)], 0) else (st.1 ++ fl st.2 ++ [(c.1, 1)], 0)
def scn (cs : List Ch) : List Un × Nat := cs.foldl scs ([], 0)
theorem prs_scn (cs ds : List Ch) : prs 0 (cs ++ ds) = (scn cs).1 ++ prs (scn cs).2 ds := by
  induction cs using snoc_ind generalizing ds with
  | h0 => rfl
  | h1 l c ih =>
    rw [List.append_assoc, ih]
    have e : scn (l ++ [c]) = scs (scn l) c := by unfold scn; rw [List.foldl_append]; rfl
    rw [e]
    obtain ⟨s, k⟩ := c
    show (scn l).1 ++ prs (scn l).2 ((s, k) :: ds) = _
    unfold scs
    by_cases hB : s = sB
    · subst hB
      rw [if_pos rfl, prs_B]
    · by_cases hQ : s = sQ
      · subst hQ
        rw [if_neg sQB, if_pos rfl, prs_Q]
        simp
      · rw [if_neg hB, if_neg hQ, prs_P _ _ hB hQ]
        simp
theorem scn_prs (cs : List Ch) : prs 0 cs = (scn cs).1 ++ fl (scn cs).2 := by
  have := prs_scn cs []
  rw [List.append_nil] at this
  exact this
theorem scn_snoc (cs : List Ch) (c : Ch) : scn (cs ++ [c]) = scs (scn cs) c := by unfold scn; rw [List.foldl_append]; rfl
theorem scn_B (cs : List Ch) (l : Nat) : ∀ k, scn (cs ++ List.replicate k (sB, l)) = ((scn cs).1, (scn cs).2 + k * 2 ^ l)
  | 0 => by rw [Nat.zero_mul]; simp
  | k + 1 => by
    rw [List.replicate_succ', ← List.append_assoc, scn_snoc, scn_B cs l k]
    unfold scs
    rw [if_pos rfl, Nat.succ_mul, Nat.add_assoc]
theorem scn_Q (cs : List Ch) (l : Nat) : ∀ k, scn (cs ++ List.replicate (k + 1) (sQ, l)) = ((scn cs).1 ++ [(sQ, (scn cs).2 + 2 ^ l)] ++ List.replicate k (sQ, 2 ^ l), 0)
  | 0 => by
    rw [List.replicate_succ, List.replicate_zero, scn_snoc]
    unfold scs
    rw [if_neg sQB, if_pos rfl]
    simp
  | k + 1 => by
    rw [List.replicate_succ', ← List.append_assoc, scn_snoc, scn_Q cs l k]
    unfold scs
    rw [if_neg sQB, if_pos rfl, Nat.zero_add, List.replicate_succ' (n := k), List.append_assoc]
theorem scn_P (cs : List Ch) {s : Sy} (l : Nat) (h1 : s ≠ sB) (h2 : s ≠ sQ) : ∀ k, scn (cs ++ List.replicate (k + 1) (s, l)) = ((scn cs).1 ++ fl (scn cs).2 ++ List.replicate (k + 1) (s, 1), 0)
  | 0 => by
    rw [List.replicate_succ, List.replicate_zero, scn_snoc]
    unfold scs
    rw [if_neg h1, if_neg h2]
    rfl
  | k + 1 => by
    rw [List.replicate_succ', ← List.append_assoc, scn_snoc, scn_P cs l h1 h2 k]
    unfold scs
    rw [if_neg h1, if_neg h2]
    show ((scn cs).1 ++ fl (scn cs).2 ++ List.replicate (k + 1) (s, 1) ++ fl 0 ++ [(s, 1)], 0) = _
    rw [List.replicate_succ' (n := k + 1)]
    simp [fl]
/-- the closed units end with a double quote or a plain symbol -/
theorem scn_last (cs : List Ch) : ∀ u, (scn cs).1.getLast? = some u → u.1 ≠ sB := by
  induction cs using snoc_ind with
  | h0 => intro u h; cases h
  | h1 l c ih =>
    rw [scn_snoc]
    unfold scs
    intro u h
    by_cases hB : c.1 = sB
    · rw [if_pos hB] at h; exact ih u h
    · rw [if_neg hB] at h
      by_cases hQ : c.1 = sQ
      · rw [if_pos hQ] at h
        have h' : ((scn l).1 ++ [(sQ, (scn l).2 + 2 ^ c.2)]).getLast? = some u := h
        rw [List.getLast?_concat] at h'
        cases h'; exact sQB
      · rw [if_neg hQ] at h
        have h' : ((scn l).1 ++ fl (scn l).2 ++ [(c.1, 1)]).getLast? = some u := h
        rw [List.getLast?_concat] at h'
        cases h'; exact hB
/-- the form of a text's units: sizes from 1, plain ones of size 1, no special unit behind backslashes alone -/
structure WU (U : List Un) : Prop where
  pos : PosU U
  p1 : P1 U
  nb : Nb (fun a b => a.1 = sB → ¬ isG b) U
theorem WU.ok {U : List Un} (h : WU U) : UOk U := ⟨h.pos, h.p1⟩
theorem wu_cons {u : Un} {U : List Un} (h : WU U) (h1 : 1 ≤ u.2) (h2 : ¬ isG u → u.2 = 1) (h3 : u.1 = sB → ∀ v, U.head? = some v → ¬ isG v) : WU (u :: U) :=
  ⟨fun v hv => by rcases List.mem_cons.mp hv with e | hv; { rw [e]; exact h1 }; { exact h.pos v hv },
   fun v hv => by rcases List.mem_cons.mp hv with e | hv; { rw [e]; exact h2 }; { exact h.p1 v hv },
   ⟨fun v hv q => h3 q v hv, h.nb⟩⟩
theorem prs_wu : ∀ (cs : List Ch) (w : Nat), WU (prs w cs)
  | [], w => by
    show WU (fl w)
    unfold fl
    split
    · exact ⟨fun _ h => (nomatch h), fun _ h => (nomatch h), trivial⟩
    · exact wu_cons ⟨fun _ h => (nomatch h), fun _ h => (nomatch h), trivial⟩ (by show 1 ≤ w; omega) (fun z => absurd (.inl rfl) z) (fun _ _ z => (nomatch z))
  | (s, l) :: cs, w => by
    have hp := Nat.two_pow_pos l
    by_cases hB : s = sB
    · subst hB; rw [prs_B]; exact prs_wu cs _
    · by_cases hQ : s = sQ
      · subst hQ
        rw [prs_Q]
        exact wu_cons (prs_wu cs 0) (by show 1 ≤ w + 2 ^ l; omega) (fun z => absurd (.inr rfl) z) (fun z => absurd z sQB)
      · rw [prs_P _ _ hB hQ]
        have h1 : WU ((s, 1) :: prs 0 cs) := wu_cons (prs_wu cs 0) (Nat.le_refl _) (fun _ => rfl) (fun z => absurd z hB)
        unfold fl
        split
        · exact h1
        · exact wu_cons h1 (by show 1 ≤ w; omega) (fun z => absurd (.inl rfl) z) (fun _ v hv => by cases hv; exact fun z => z.elim hB hQ)
theorem prs_tot : ∀ (cs : List Ch) (w : Nat), tot (prs w cs) = w + (lvs cs).length
  | [], w => by
    show tot (fl w) = _
    unfold fl
    split
    · rename_i e; rw [e]; rfl
    · rfl
  | (s, l) :: cs, w => by
    show _ = w + (List.replicate (wd s l) l ++ lvs cs).length
    rw [List.length_append, List.length_replicate]
    by_cases hB : s = sB
    · subst hB; rw [prs_B, prs_tot cs, wd_B, Nat.add_assoc]
    · by_cases hQ : s = sQ
      · subst hQ
        rw [prs_Q, wd_Q]
        show w + 2 ^ l + tot (prs 0 cs) = _
        rw [prs_tot cs 0]
        omega
      · rw [prs_P _ _ hB hQ, wd_p l hB hQ, tot_app]
        have e : tot (fl w) = w := by
          unfold fl
          split
          · rename_i e; rw [e]; rfl
          · rfl
        show tot (fl w) + (1 + tot (prs 0 cs)) = _
        rw [e, prs_tot cs 0]
        omega

/-! ### pieces -/
abbrev Pc := Un × Nat
/-- groups without a quote stand alone -/
def mgP (u : Un) : Bool := decide (u.1 ≠ sB)
def pcs (U : List Un) : List Pc := rn mgP U
theorem mgP_ne {u : Un} (h : u.1 ≠ sB) : mgP u = true := decide_eq_true h
theorem mgP_B (w : Nat) : mgP (sB, w) = false := decide_eq_false fun z => z rfl
/-! ### the text of units -/
def tch (u : Un) : List Sy := if u.1 = sQ then List.replicate (u.2 - 1) sB ++ [sQ] else List.replicate u.2 u.1
def tx (U : List Un) : List Sy := U.flatMap tch
def ch0 (xs : List Sy) : List Ch := xs.map fun s => (s, 0)
theorem tx_cons (u : Un) (U : List Un) : tx (u :: U) = tch u ++ tx U := rfl
theorem ch0_app (a b : List Sy) : ch0 (a ++ b) = ch0 a ++ ch0 b := List.map_append
theorem ch0_rep (k : Nat) (s : Sy) : ch0 (List.replicate k s) = List.replicate k (s, 0) := List.map_replicate
/-- the text's units are read off again -/
theorem prs_tx : ∀ {U : List Un}, WU U → prs 0 (ch0 (tx U)) = U
  | [], _ => rfl
  | (s, z) :: U, h => by
    have hU : WU U := ⟨fun v hv => h.pos v (List.mem_cons_of_mem _ hv), fun v hv => h.p1 v (List.mem_cons_of_mem _ hv), h.nb.2⟩
    have ih := prs_tx hU
    have hz : 1 ≤ z := h.pos (s, z) List.mem_cons_self
    rw [tx_cons, ch0_app]
    unfold tch
    by_cases hQ : s = sQ
    · subst hQ
      rw [if_pos rfl, ch0_app, ch0_rep, List.append_assoc, prs_app_B]
      show prs (0 + (z - 1) * 2 ^ 0) ((sQ, 0) :: ch0 (tx U)) = _
      rw [prs_Q, ih]
      have : 0 + (z - 1) * 2 ^ 0 + 2 ^ 0 = z := by omega
      rw [this]
    · rw [if_neg hQ, ch0_rep]
      by_cases hB : s = sB
      · subst hB
        rw [prs_app_B, Nat.pow_zero, Nat.mul_one, Nat.zero_add]
        cases U with
        | nil =>
          show fl z = _
          unfold fl
          rw [if_neg (by omega)]
        | cons v V =>
          obtain ⟨t, y⟩ := v
          have hv : ¬ isG (t, y) := h.nb.1 _ rfl rfl
          have tB : t ≠ sB := fun q => hv (.inl q)
          have tQ : t ≠ sQ := fun q => hv (.inr q)
          have y1 : y = 1 := hU.p1 (t, y) List.mem_cons_self hv
          subst y1
          have e : ch0 (tx ((t, 1) :: V)) = (t, 0) :: ch0 (tx V) := by
            rw [tx_cons, ch0_app]
            unfold tch
            rw [if_neg tQ]
            rfl
          rw [e, prs_P _ _ tB tQ] at ih
          rw [e, prs_P _ _ tB tQ]
          have ih2 : (t, 1) :: prs 0 (ch0 (tx V)) = (t, 1) :: V := ih
          rw [ih2]
          unfold fl
          rw [if_neg (by omega)]
          rfl
      · have z1 : z = 1 := h.p1 (s, z) List.mem_cons_self fun q => q.elim hB hQ
        subst z1
        show prs 0 ((s, 0) :: ch0 (tx U)) = _
        rw [prs_P _ _ hB hQ, ih]
        rfl
theorem tch_len (u : Un) (h : 1 ≤ u.2) : (tch u).length = u.2 := by
  unfold tch
  split
  · simp; omega
  · simp
theorem tx_len : ∀ {U : List Un}, PosU U → (tx U).length = tot U
  | [], _ => rfl
  | u :: U, h => by
    rw [tx_cons, List.length_append, tch_len u (h u List.mem_cons_self), tx_len fun v hv => h v (List.mem_cons_of_mem _ hv)]
    rfl
end Sl

end
section
set_option linter.all false
set_option autoImplicit false
namespace Sl
/-! ### the characters of a history, from its levels -/
def pch (q : Nat) : List (Nat × Nat) → List Ch
  | [] => []
  | [x] => List.replicate (x.2 - q) (sB, x.1) ++ List.replicate q (sQ, x.1)
  | x :: y :: r => List.replicate x.2 (sB, x.1) ++ pch q (y :: r)
def prt (c : List Nat) : List (Nat × Nat) := (rl c).map fun x => (x.1, x.2 / 2 ^ x.1)
def plv (ps : List (Nat × Nat)) : List Nat := ps.flatMap fun x => List.replicate (x.2 * 2 ^ x.1) x.1
def psz : List (Nat × Nat) → Nat
  | [] => 0
  | x :: r => x.2 * 2 ^ x.1 + psz r
theorem plv_len : ∀ ps, (plv ps).length = psz ps
  | [] => rfl
  | x :: r => by
    show (List.replicate (x.2 * 2 ^ x.1) x.1 ++ plv r).length = _
    rw [List.length_append, List.length_replicate, plv_len r]
    rfl
theorem lvs_pch {q : Nat} (hq : q ≤ 1) : ∀ {ps : List (Nat × Nat)}, (∀ x ∈ ps, 1 ≤ x.2) → lvs (pch q ps) = plv ps
  | [], _ => rfl
  | [x], h => by
    have h1 := h x List.mem_cons_self
    show lvs (List.replicate (x.2 - q) (sB, x.1) ++ List.replicate q (sQ, x.1)) = List.replicate (x.2 * 2 ^ x.1) x.1 ++ []
    rw [lvs_app, lvs_rep, lvs_rep, wd_B, wd_Q, List.replicate_append_replicate, List.append_nil, ← Nat.add_mul, Nat.sub_add_cancel (by omega)]
  | x :: y :: r, h => by
    show lvs (List.replicate x.2 (sB, x.1) ++ pch q (y :: r)) = List.replicate (x.2 * 2 ^ x.1) x.1 ++ plv (y :: r)
    rw [lvs_app, lvs_rep, wd_B, lvs_pch hq fun z hz => h z (List.mem_cons_of_mem _ hz)]
theorem prs_pch0 (cs : List Ch) : ∀ (ps : List (Nat × Nat)) (w : Nat), prs w (pch 0 ps ++ cs) = prs (w + psz ps) cs
  | [], w => rfl
  | [x], w => by
    show prs w (List.replicate (x.2 - 0) (sB, x.1) ++ [] ++ cs) = prs (w + (x.2 * 2 ^ x.1 + 0)) cs
    rw [List.append_nil, prs_app_B, Nat.sub_zero, Nat.add_zero]
  | x :: y :: r, w => by
    show prs w (List.replicate x.2 (sB, x.1) ++ pch 0 (y :: r) ++ cs) = prs (w + (x.2 * 2 ^ x.1 + psz (y :: r))) cs
    rw [List.append_assoc, prs_app_B, prs_pch0 cs (y :: r), Nat.add_assoc]
theorem prs_pch1 (cs : List Ch) : ∀ (ps : List (Nat × Nat)) (w : Nat), ps ≠ [] → (∀ x ∈ ps, 1 ≤ x.2) → prs w (pch 1 ps ++ cs) = (sQ, w + psz ps) :: prs 0 cs
  | [], w, h, _ => absurd rfl h
  | [x], w, _, h => by
    have h1 := h x List.mem_cons_self
    show prs w (List.replicate (x.2 - 1) (sB, x.1) ++ [(sQ, x.1)] ++ cs) = (sQ, w + (x.2 * 2 ^ x.1 + 0)) :: prs 0 cs
    rw [List.append_assoc, prs_app_B]
    show prs _ ((sQ, x.1) :: cs) = _
    rw [prs_Q]
    have : (x.2 - 1) * 2 ^ x.1 + 2 ^ x.1 = x.2 * 2 ^ x.1 := by
      rw [← Nat.succ_mul, Nat.succ_eq_add_one, Nat.sub_add_cancel h1]
    rw [Nat.add_assoc, this, Nat.add_zero]
  | x :: y :: r, w, _, h => by
    show prs w (List.replicate x.2 (sB, x.1) ++ pch 1 (y :: r) ++ cs) = (sQ, w + (x.2 * 2 ^ x.1 + psz (y :: r))) :: prs 0 cs
    rw [List.append_assoc, prs_app_B, prs_pch1 cs (y :: r) _ (List.cons_ne_nil _ _) fun z hz => h z (List.mem_cons_of_mem _ hz), Nat.add_assoc]
theorem prt_lv {c : List Nat} (hd : Dn c) (ha : Al c) : plv (prt c) = c ∧ ∀ x ∈ prt c, 1 ≤ x.2 := by
  have hw : Wr yes (rl c) := rn_wr c
  have dv : ∀ x ∈ rl c, x.2 / 2 ^ x.1 * 2 ^ x.1 = x.2 := fun x hx => Nat.div_mul_cancel (rl_dvd hd ha hx)
  constructor
  · have : plv (prt c) = exR (rl c) := by
      unfold plv prt exR
      rw [List.flatMap_map]
      have : ∀ l : List (Nat × Nat), (∀ x ∈ l, x.2 / 2 ^ x.1 * 2 ^ x.1 = x.2) → l.flatMap (fun x => List.replicate (x.2 / 2 ^ x.1 * 2 ^ x.1) x.1) = l.flatMap fun x => List.replicate x.2 x.1 := by
        intro l
        induction l with
        | nil => intro _; rfl
        | cons a r ih =>
          intro h
          rw [List.flatMap_cons, List.flatMap_cons, h a List.mem_cons_self, ih fun x hx => h x (List.mem_cons_of_mem _ hx)]
      exact this _ dv
    rw [this]
    exact exR_rn c
  · intro x hx
    obtain ⟨y, hy, rfl⟩ := List.mem_map.mp hx
    have h1 := dv y hy
    have h2 := hw.pos y hy
    show 1 ≤ y.2 / 2 ^ y.1
    rcases Nat.eq_zero_or_pos (y.2 / 2 ^ y.1) with e | e
    · rw [e] at h1; omega
    · exact e
theorem prt_ne {c : List Nat} (h : c ≠ []) : prt c ≠ [] := fun e => by
  have h1 : rl c = [] := List.map_eq_nil_iff.mp e
  have h2 : exR (rl c) = c := exR_rn c
  rw [h1] at h2
  exact h h2.symm
/-- 1 for a group with a quote -/
def qn (s : Sy) : Nat := if s = sQ then 1 else 0
theorem qn_le (s : Sy) : qn s ≤ 1 := by unfold qn; split <;> omega
def uch (u : Un) (c : List Nat) : List Ch := if isG u then pch (qn u.1) (prt c) else c.map fun l => (u.1, l)
def bwu : List Un → List Nat → List Ch
  | [], _ => []
  | u :: U, ls => uch u (ls.take u.2) ++ bwu U (ls.drop u.2)
theorem bwu_app : ∀ (A B : List Un) (ls : List Nat), bwu (A ++ B) ls = bwu A (ls.take (tot A)) ++ bwu B (ls.drop (tot A))
  | [], B, ls => by
    show bwu B ls = [] ++ bwu B (ls.drop 0)
    rfl
  | u :: A, B, ls => by
    show uch u (ls.take u.2) ++ bwu (A ++ B) (ls.drop u.2) = uch u ((ls.take (u.2 + tot A)).take u.2) ++ bwu A ((ls.take (u.2 + tot A)).drop u.2) ++ bwu B (ls.drop (u.2 + tot A))
    rw [bwu_app A B, List.take_take, Nat.min_eq_left (Nat.le_add_right _ _), List.drop_take, Nat.add_sub_cancel_left, List.drop_drop, List.append_assoc]
theorem Fit.app : ∀ {A B : List Un} {ls : List Nat}, Fit (A ++ B) ls → Fit A (ls.take (tot A)) ∧ Fit B (ls.drop (tot A))
  | [], B, ls, h => by
    refine ⟨?_, ?_⟩
    · show ls.take 0 = []
      exact List.take_zero
    · show Fit B (ls.drop 0)
      exact h
  | u :: A, B, ls, h => by
    obtain ⟨h1, h2, h3⟩ := h
    obtain ⟨i1, i2⟩ := Fit.app (A := A) (B := B) h3
    refine ⟨⟨?_, fun hg => ?_, ?_⟩, ?_⟩
    · show u.2 ≤ (ls.take (u.2 + tot A)).length
      rw [List.length_take]
      omega
    · show Al ((ls.take (u.2 + tot A)).take u.2)
      rw [List.take_take, Nat.min_eq_left (Nat.le_add_right _ _)]
      exact h2 hg
    · show Fit A ((ls.take (u.2 + tot A)).drop u.2)
      rw [List.drop_take, Nat.add_sub_cancel_left]
      exact i1
    · show Fit B (ls.drop (u.2 + tot A))
      rw [← List.drop_drop]
      exact i2
theorem lvs_map (s : Sy) (h1 : s ≠ sB) (h2 : s ≠ sQ) : ∀ c : List Nat, lvs (c.map fun l => (s, l)) = c
  | [] => rfl
  | x :: r => by
    show List.replicate (wd s x) x ++ lvs (r.map fun l => (s, l)) = x :: r
    rw [wd_p x h1 h2, lvs_map s h1 h2 r]
    rfl
theorem prs_map (s : Sy) (h1 : s ≠ sB) (h2 : s ≠ sQ) (cs : List Ch) : ∀ c : List Nat, prs 0 ((c.map fun l => (s, l)) ++ cs) = List.replicate c.length (s, 1) ++ prs 0 cs
  | [] => rfl
  | x :: r => by
    show prs 0 ((s, x) :: ((r.map fun l => (s, l)) ++ cs)) = _
    rw [prs_P _ _ h1 h2, prs_map s h1 h2 cs r]
    rfl
theorem prs_head {w : Nat} (hw : 1 ≤ w) : ∀ cs : List Ch, ∃ u r, prs w cs = u :: r ∧ isG u := by
  intro cs
  induction cs generalizing w with
  | nil =>
    refine ⟨(sB, w), [], ?_, .inl rfl⟩
    show fl w = _
    unfold fl
    rw [if_neg (by omega)]
  | cons c cs ih =>
    obtain ⟨s, l⟩ := c
    by_cases hB : s = sB
    · subst hB; rw [prs_B]; exact ih (Nat.le_trans hw (Nat.le_add_right _ _))
    · by_cases hQ : s = sQ
      · subst hQ; rw [prs_Q]; exact ⟨_, _, rfl, .inr rfl⟩
      · rw [prs_P _ _ hB hQ]
        refine ⟨(sB, w), (s, 1) :: prs 0 cs, ?_, .inl rfl⟩
        unfold fl
        rw [if_neg (by omega)]
        rfl
/-- backslashes ahead of what begins with a plain symbol are a group of their own -/
theorem prs_flush {cs : List Ch} (w : Nat) (h : ∀ v, (prs 0 cs).head? = some v → ¬ isG v) : prs w cs = fl w ++ prs 0 cs := by
  cases cs with
  | nil =>
    show fl w = fl w ++ fl 0
    unfold fl
    simp
  | cons c cs =>
    obtain ⟨s, l⟩ := c
    by_cases hB : s = sB
    · subst hB
      rw [prs_B] at h
      have hp := Nat.two_pow_pos l
      obtain ⟨u, r, e, g⟩ := prs_head (w := 0 + 2 ^ l) (by omega) cs
      rw [e] at h
      exact absurd g (h u rfl)
    · by_cases hQ : s = sQ
      · subst hQ
        rw [prs_Q] at h
        exact absurd (.inr rfl) (h _ rfl)
      · rw [prs_P _ _ hB hQ, prs_P _ _ hB hQ]
        rfl
theorem take_len {ls : List Nat} {k : Nat} (h : k ≤ ls.length) : (ls.take k).length = k := by rw [List.length_take]; omega
theorem bwu_ok : ∀ {U : List Un} {ls : List Nat}, WU U → Dn ls → Fit U ls → prs 0 (bwu U ls) = U ∧ lvs (bwu U ls) = ls
  | [], ls, _, _, h => by
    rw [show ls = [] from h]
    exact ⟨rfl, rfl⟩
  | (s, z) :: U, ls, hW, hd, h => by
    have hU : WU U := ⟨fun v hv => hW.pos v (List.mem_cons_of_mem _ hv), fun v hv => hW.p1 v (List.mem_cons_of_mem _ hv), hW.nb.2⟩
    obtain ⟨h1, h2, h3⟩ := h
    have h1' : z ≤ ls.length := h1
    have hz : 1 ≤ z := hW.pos (s, z) List.mem_cons_self
    obtain ⟨i1, i2⟩ := bwu_ok hU (hd.drop z) h3
    show prs 0 (uch (s, z) (ls.take z) ++ bwu U (ls.drop z)) = (s, z) :: U ∧ lvs (uch (s, z) (ls.take z) ++ bwu U (ls.drop z)) = ls
    have hl := take_len h1'
    rw [lvs_app, i2]
    unfold uch
    by_cases hg : isG (s, z)
    · rw [if_pos hg]
      obtain ⟨p1, p2⟩ := prt_lv (hd.take z) (h2 hg)
      have sz : psz (prt (ls.take z)) = z := by rw [← plv_len, p1, hl]
      rw [lvs_pch (qn_le s) p2, p1, List.take_append_drop]
      refine ⟨?_, rfl⟩
      unfold qn
      by_cases hQ : s = sQ
      · show prs 0 (pch (if s = sQ then 1 else 0) _ ++ _) = _
        rw [if_pos hQ, prs_pch1 _ _ _ (prt_ne fun e => by rw [e] at hl; simp at hl; omega) p2, i1, sz, Nat.zero_add, hQ]
      · have hB : s = sB := hg.elim id fun q => absurd q hQ
        show prs 0 (pch (if s = sQ then 1 else 0) _ ++ _) = _
        rw [if_neg hQ, prs_pch0, sz, Nat.zero_add, prs_flush z (by rw [i1]; exact fun v hv => hW.nb.1 v hv hB), i1]
        unfold fl
        rw [if_neg (by omega), hB]
        rfl
    · rw [if_neg hg]
      have z1 : z = 1 := hW.p1 (s, z) List.mem_cons_self hg
      have hB : s ≠ sB := fun q => hg (.inl q)
      have hQ : s ≠ sQ := fun q => hg (.inr q)
      rw [prs_map s hB hQ, lvs_map s hB hQ, List.take_append_drop, hl, i1, z1]
      exact ⟨rfl, rfl⟩
/-- single special symbols have level 0 -/
theorem al_one {c : List Nat} (hl : c.length = 1) (ha : Al c) : c = [0] := by
  match c, hl with
  | [x], _ =>
    have h := ha x
    rw [cnt_cons, if_pos (Nat.le_refl _), cnt_nil, Nat.add_zero] at h
    have : 2 ^ x ≤ 1 := Nat.le_of_dvd Nat.one_pos h
    rcases Nat.eq_zero_or_pos x with e | e
    · rw [e]
    · have := Nat.pow_le_pow_right (show 0 < 2 by omega) e
      omega
theorem uch_one {s : Sy} (hg : isG (s, 1)) : uch (s, 1) [0] = [(s, 0)] := by
  unfold uch
  rw [if_pos hg]
  have : prt [0] = [(0, 1)] := by decide
  rw [this]
  unfold qn
  by_cases hQ : s = sQ
  · show pch (if s = sQ then 1 else 0) _ = _
    rw [if_pos hQ, hQ]; rfl
  · have hB : s = sB := hg.elim id fun q => absurd q hQ
    show pch (if s = sQ then 1 else 0) _ = _
    rw [if_neg hQ, hB]; rfl
/-- units of size 1, one behind another -/
theorem bwu_ones {s : Sy} : ∀ {m : Nat} {ls : List Nat}, Fit (List.replicate m (s, 1)) ls → bwu (List.replicate m (s, 1)) ls = ls.map fun l => (s, l)
  | 0, ls, h => by rw [show ls = [] from h]; rfl
  | m + 1, ls, h => by
    rw [List.replicate_succ] at h ⊢
    obtain ⟨h1, h2, h3⟩ := h
    show uch (s, 1) (ls.take 1) ++ bwu (List.replicate m (s, 1)) (ls.drop 1) = _
    rw [bwu_ones (show Fit _ (ls.drop 1) from h3)]
    have h1' : 1 ≤ ls.length := h1
    have hl := take_len h1'
    have e : uch (s, 1) (ls.take 1) = (ls.take 1).map fun l => (s, l) := by
      by_cases hg : isG (s, 1)
      · have : ls.take 1 = [0] := al_one hl (h2 hg)
        rw [this, uch_one hg]; rfl
      · unfold uch; rw [if_neg hg]
    rw [e, ← List.map_append, List.take_append_drop]
end Sl

end
section
set_option linter.all false
set_option autoImplicit false
namespace Sl
/-! ### the greatest history -/
def gp : Nat → Nat → List (Nat × Nat)
  | z, 0 => if z = 0 then [] else [(0, z)]
  | z, b + 1 => (if z / 2 ^ (b + 1) = 0 then [] else [(b + 1, z / 2 ^ (b + 1))]) ++ gp (z % 2 ^ (b + 1)) b
def gpl (z b : Nat) : Nat := ((gp z b).getLast?.getD (0, 0)).1
theorem plv_app (a b : List (Nat × Nat)) : plv (a ++ b) = plv a ++ plv b := List.flatMap_append
theorem gp_pos : ∀ (b z : Nat), ∀ x ∈ gp z b, 1 ≤ x.2 ∧ x.1 ≤ b
  | 0, z, x, h => by
    unfold gp at h
    by_cases e : z = 0
    · rw [if_pos e] at h; cases h
    · rw [if_neg e] at h
      rw [List.mem_singleton.mp h]
      exact ⟨by show 1 ≤ z; omega, Nat.le_refl _⟩
  | b + 1, z, x, h => by
    unfold gp at h
    rcases List.mem_append.mp h with h | h
    · by_cases e : z / 2 ^ (b + 1) = 0
      · rw [if_pos e] at h; cases h
      · rw [if_neg e] at h
        rw [List.mem_singleton.mp h]
        exact ⟨Nat.pos_of_ne_zero e, Nat.le_refl _⟩
    · have := gp_pos b _ x h
      exact ⟨this.1, by omega⟩
theorem gp_nil : ∀ {b z : Nat}, gp z b = [] → z = 0
  | 0, z, h => by
    unfold gp at h
    by_cases e : z = 0
    · exact e
    · rw [if_neg e] at h; cases h
  | b + 1, z, h => by
    unfold gp at h
    obtain ⟨h1, h2⟩ := List.append_eq_nil_iff.mp h
    have h3 := gp_nil h2
    by_cases e : z / 2 ^ (b + 1) = 0
    · have := Nat.div_add_mod z (2 ^ (b + 1))
      rw [e, h3] at this
      omega
    · rw [if_neg e] at h1; cases h1
theorem dvd_split {l b z : Nat} (h : l ≤ b) : z / 2 ^ b * 2 ^ b + z % 2 ^ b / 2 ^ l * 2 ^ l = z / 2 ^ l * 2 ^ l := by
  have e : (2 : Nat) ^ b = 2 ^ (b - l) * 2 ^ l := by rw [← Nat.pow_add, Nat.sub_add_cancel h]
  have hp := Nat.two_pow_pos l
  have h1 : z / 2 ^ l = z / 2 ^ b * 2 ^ (b - l) + z % 2 ^ b / 2 ^ l := by
    have h2 : z = z % 2 ^ b + z / 2 ^ b * 2 ^ (b - l) * 2 ^ l := by
      rw [Nat.mul_assoc, ← e, Nat.mul_comm]
      have := Nat.div_add_mod z (2 ^ b)
      omega
    conv => lhs; rw [h2]
    rw [Nat.add_mul_div_right _ _ hp, Nat.add_comm]
  rw [h1, Nat.add_mul, Nat.mul_assoc (z / 2 ^ b), ← e]
theorem gp_cnt (l : Nat) : ∀ (b z : Nat), cnt l (plv (gp z b)) = if l ≤ b then z / 2 ^ l * 2 ^ l else 0
  | 0, z => by
    unfold gp
    by_cases e : z = 0
    · rw [if_pos e, e]
      by_cases hl : l ≤ 0
      · rw [if_pos hl, Nat.zero_div, Nat.zero_mul]; rfl
      · rw [if_neg hl]; rfl
    · rw [if_neg e]
      show cnt l (List.replicate (z * 2 ^ 0) 0 ++ []) = _
      rw [List.append_nil, cnt_rep]
      by_cases hl : l ≤ 0
      · have : l = 0 := by omega
        rw [if_pos hl, if_pos hl, this]
        simp
      · rw [if_neg hl, if_neg hl]
  | b + 1, z => by
    unfold gp
    rw [plv_app, cnt_app, gp_cnt l b]
    have e1 : cnt l (plv (if z / 2 ^ (b + 1) = 0 then [] else [(b + 1, z / 2 ^ (b + 1))])) = if l ≤ b + 1 then z / 2 ^ (b + 1) * 2 ^ (b + 1) else 0 := by
      by_cases e : z / 2 ^ (b + 1) = 0
      · rw [if_pos e, e, Nat.zero_mul]
        split <;> rfl
      · rw [if_neg e]
        show cnt l (List.replicate _ (b + 1) ++ []) = _
        rw [List.append_nil, cnt_rep]
    rw [e1]
    by_cases h1 : l ≤ b
    · rw [if_pos h1, if_pos (by omega), if_pos (by omega)]
      exact dvd_split (by omega)
    · rw [if_neg h1]
      by_cases h2 : l ≤ b + 1
      · have : l = b + 1 := by omega
        rw [if_pos h2, if_pos h2, this, Nat.add_zero]
      · rw [if_neg h2, if_neg h2]
theorem gp_len (b z : Nat) : (plv (gp z b)).length = z := by
  rw [← cnt_zero, gp_cnt, if_pos (Nat.zero_le _)]
  simp
theorem gp_dn : ∀ b z, Dn (plv (gp z b))
  | 0, z => by
    unfold gp
    by_cases e : z = 0
    · rw [if_pos e]; exact Dn.nil
    · rw [if_neg e]
      show Dn (List.replicate _ 0 ++ [])
      rw [List.append_nil]
      exact Dn.rep _ _
  | b + 1, z => by
    unfold gp
    rw [plv_app]
    refine List.pairwise_append.mpr ⟨?_, gp_dn b _, fun x hx y hy => ?_⟩
    · by_cases e : z / 2 ^ (b + 1) = 0
      · rw [if_pos e]; exact Dn.nil
      · rw [if_neg e]
        show Dn (List.replicate _ (b + 1) ++ [])
        rw [List.append_nil]
        exact Dn.rep _ _
    · have hx' : x = b + 1 := by
        by_cases e : z / 2 ^ (b + 1) = 0
        · rw [if_pos e] at hx; cases hx
        · rw [if_neg e] at hx
          have : x ∈ List.replicate (z / 2 ^ (b + 1) * 2 ^ (b + 1)) (b + 1) ++ [] := hx
          rw [List.append_nil] at this
          exact List.eq_of_mem_replicate this
      obtain ⟨v, hv, e⟩ := List.mem_flatMap.mp hy
      have := (gp_pos b _ v hv).2
      rw [List.eq_of_mem_replicate e]
      omega
theorem plv_ge {l : Nat} {ps : List (Nat × Nat)} (h : ∀ x ∈ ps, l ≤ x.1) : cnt l (plv ps) = (plv ps).length :=
  cnt_all l _ fun y hy => by
    obtain ⟨v, hv, e⟩ := List.mem_flatMap.mp hy
    rw [List.eq_of_mem_replicate e]; exact h v hv
/-- the last part's level tells what divides the size -/
theorem gpl_iff {l b z : Nat} (hz : 1 ≤ z) (hl : l ≤ b) : l ≤ gpl z b ↔ 2 ^ l ∣ z := by
  have hc := gp_cnt l b z
  rw [if_pos hl] at hc
  have hlen := gp_len b z
  rcases nil_or_snoc (gp z b) with e | ⟨L, y, e⟩
  · have := gp_nil e
    omega
  · have eg : gpl z b = y.1 := by unfold gpl; rw [e, List.getLast?_concat]; rfl
    have hy := gp_pos b z y (by rw [e]; simp)
    have hyr : plv (gp z b) = plv L ++ List.replicate (y.2 * 2 ^ y.1) y.1 := by
      rw [e, plv_app]
      show _ ++ (List.replicate _ _ ++ []) = _
      rw [List.append_nil]
    have pos : 1 ≤ y.2 * 2 ^ y.1 := Nat.mul_pos hy.1 (Nat.two_pow_pos _)
    rw [eg]
    constructor
    · intro h
      have all : cnt l (plv (gp z b)) = (plv (gp z b)).length := by
        refine cnt_all l _ fun x hx => ?_
        rw [hyr] at hx
        have hd := gp_dn b z
        rw [hyr] at hd
        rcases List.mem_append.mp hx with q | q
        · have := (List.pairwise_append.mp hd).2.2 x q y.1 (by rw [List.mem_replicate]; omega)
          omega
        · rw [List.eq_of_mem_replicate q]; exact h
      rw [hc, hlen] at all
      exact ⟨z / 2 ^ l, by rw [Nat.mul_comm]; exact all.symm⟩
    · intro h
      rcases Nat.lt_or_ge y.1 l with q | q
      · have : cnt l (plv (gp z b)) < (plv (gp z b)).length := by
          rw [hyr, cnt_app, cnt_rep, if_neg (by omega), List.length_append, List.length_replicate]
          have := cnt_le l (plv L)
          omega
        rw [hc, hlen, Nat.div_mul_cancel h] at this
        omega
      · exact q
theorem gpl_le {b z : Nat} (hz : 1 ≤ z) : gpl z b ≤ b := by
  rcases nil_or_snoc (gp z b) with e | ⟨L, y, e⟩
  · have := gp_nil e
    omega
  · have eg : gpl z b = y.1 := by unfold gpl; rw [e, List.getLast?_concat]; rfl
    rw [eg]
    exact (gp_pos b z y (by rw [e]; simp)).2
def gch (b : Nat) (u : Un) : List Ch := if isG u then pch (qn u.1) (gp u.2 b) else [(u.1, b)]
def gb (b : Nat) (u : Un) : Nat := if isG u then gpl u.2 b else b
def gru : Nat → List Un → List Ch
  | _, [] => []
  | b, u :: U => gch b u ++ gru (gb b u) U
theorem gb_le {b : Nat} {u : Un} (h : 1 ≤ u.2) : gb b u ≤ b := by
  unfold gb
  split
  · exact gpl_le h
  · exact Nat.le_refl _
theorem gch_lv {b : Nat} {u : Un} (h1 : ¬ isG u → u.2 = 1) : lvs (gch b u) = if isG u then plv (gp u.2 b) else [b] := by
  unfold gch
  by_cases hg : isG u
  · rw [if_pos hg, if_pos hg]
    exact lvs_pch (qn_le _) fun x hx => (gp_pos b _ x hx).1
  · rw [if_neg hg, if_neg hg]
    show List.replicate (wd u.1 b) b ++ [] = [b]
    rw [wd_p b (fun q => hg (.inl q)) (fun q => hg (.inr q))]
    rfl
theorem gru_le : ∀ {U : List Un} {b : Nat}, PosU U → P1 U → ∀ x ∈ lvs (gru b U), x ≤ b
  | [], _, _, _, x, h => by cases h
  | u :: U, b, hp, h1, x, h => by
    have hu := hp u List.mem_cons_self
    rw [show gru b (u :: U) = gch b u ++ gru (gb b u) U from rfl, lvs_app, gch_lv (h1 u List.mem_cons_self)] at h
    rcases List.mem_append.mp h with h | h
    · by_cases hg : isG u
      · rw [if_pos hg] at h
        obtain ⟨v, hv, e⟩ := List.mem_flatMap.mp h
        rw [List.eq_of_mem_replicate e]
        exact (gp_pos b _ v hv).2
      · rw [if_neg hg] at h
        rw [List.mem_singleton.mp h]; exact Nat.le_refl _
    · exact Nat.le_trans (gru_le (fun v hv => hp v (List.mem_cons_of_mem _ hv)) (fun v hv => h1 v (List.mem_cons_of_mem _ hv)) x h) (gb_le hu)
/-- all levels of the parts are at least the last one's -/
theorem gp_ge {b z : Nat} (hz : 1 ≤ z) : ∀ x ∈ plv (gp z b), gpl z b ≤ x := fun x hx => by
  rcases nil_or_snoc (gp z b) with e | ⟨L, y, e⟩
  · have := gp_nil e
    omega
  · have eg : gpl z b = y.1 := by unfold gpl; rw [e, List.getLast?_concat]; rfl
    have hy := gp_pos b z y (by rw [e]; simp)
    have hyr : plv (gp z b) = plv L ++ List.replicate (y.2 * 2 ^ y.1) y.1 := by
      rw [e, plv_app]
      show _ ++ (List.replicate _ _ ++ []) = _
      rw [List.append_nil]
    have pos : 1 ≤ y.2 * 2 ^ y.1 := Nat.mul_pos hy.1 (Nat.two_pow_pos _)
    rw [eg]
    have hd := gp_dn b z
    rw [hyr] at hx hd
    rcases List.mem_append.mp hx with q | q
    · exact (List.pairwise_append.mp hd).2.2 x q y.1 (by rw [List.mem_replicate]; omega)
    · rw [List.eq_of_mem_replicate q]; exact Nat.le_refl _
theorem gru_dn : ∀ {U : List Un} {b : Nat}, PosU U → P1 U → Dn (lvs (gru b U))
  | [], _, _, _ => Dn.nil
  | u :: U, b, hp, h1 => by
    have hu := hp u List.mem_cons_self
    have hp' : PosU U := fun v hv => hp v (List.mem_cons_of_mem _ hv)
    have h1' : P1 U := fun v hv => h1 v (List.mem_cons_of_mem _ hv)
    rw [show gru b (u :: U) = gch b u ++ gru (gb b u) U from rfl, lvs_app, gch_lv (h1 u List.mem_cons_self)]
    refine List.pairwise_append.mpr ⟨?_, gru_dn hp' h1', fun x hx y hy => ?_⟩
    · by_cases hg : isG u
      · rw [if_pos hg]; exact gp_dn _ _
      · rw [if_neg hg]; exact List.pairwise_singleton _ _
    · have h2 := gru_le hp' h1' y hy
      unfold gb at h2
      by_cases hg : isG u
      · rw [if_pos hg] at hx h2
        exact Nat.le_trans h2 (gp_ge hu x hx)
      · rw [if_neg hg] at hx h2
        rw [List.mem_singleton.mp hx]; exact h2
theorem gru_prs : ∀ {U : List Un} {b : Nat}, WU U → prs 0 (gru b U) = U
  | [], _, _ => rfl
  | (s, z) :: U, b, hW => by
    have hU : WU U := ⟨fun v hv => hW.pos v (List.mem_cons_of_mem _ hv), fun v hv => hW.p1 v (List.mem_cons_of_mem _ hv), hW.nb.2⟩
    have hz : 1 ≤ z := hW.pos (s, z) List.mem_cons_self
    have ih := gru_prs (b := gb b (s, z)) hU
    show prs 0 (gch b (s, z) ++ gru (gb b (s, z)) U) = _
    unfold gch
    by_cases hg : isG (s, z)
    · rw [if_pos hg]
      have sz : psz (gp z b) = z := by rw [← plv_len, gp_len]
      unfold qn
      by_cases hQ : s = sQ
      · show prs 0 (pch (if s = sQ then 1 else 0) (gp z b) ++ _) = _
        rw [if_pos hQ, prs_pch1 _ _ _ (fun e => by have := gp_nil e; omega) fun x hx => (gp_pos b _ x hx).1, ih, sz, Nat.zero_add, hQ]
      · have hB : s = sB := hg.elim id fun q => absurd q hQ
        show prs 0 (pch (if s = sQ then 1 else 0) (gp z b) ++ _) = _
        rw [if_neg hQ, prs_pch0, sz, Nat.zero_add, prs_flush z (by rw [ih]; exact fun v hv => hW.nb.1 v hv hB), ih]
        unfold fl
        rw [if_neg (by omega), hB]
        rfl
    · rw [if_neg hg]
      have z1 : z = 1 := hW.p1 (s, z) List.mem_cons_self hg
      show prs 0 ((s, b) :: gru (gb b (s, z)) U) = _
      rw [prs_P _ _ (fun q => hg (.inl q)) (fun q => hg (.inr q)), ih, z1]
      rfl
/-- the greatest history has, for every level, as many places as any history can have -/
theorem gru_cnt {l : Nat} (hl : 1 ≤ l) : ∀ {U : List Un} {b off : Nat}, PosU U → P1 U → off + cnt l (lvs (gru b U)) = if l ≤ b then lpU l off U else off
  | [], b, off, _, _ => by
    show off + 0 = if l ≤ b then off else off
    split <;> rfl
  | u :: U, b, off, hp, h1 => by
    have hu := hp u List.mem_cons_self
    have hp' : PosU U := fun v hv => hp v (List.mem_cons_of_mem _ hv)
    have h1' : P1 U := fun v hv => h1 v (List.mem_cons_of_mem _ hv)
    rw [show gru b (u :: U) = gch b u ++ gru (gb b u) U from rfl, lvs_app, cnt_app, gch_lv (h1 u List.mem_cons_self)]
    unfold lpU
    by_cases hg : isG u
    · rw [if_pos hg, gp_cnt]
      have ih := gru_cnt hl (b := gb b u) (off := off + u.2) hp' h1'
      unfold gb at ih ⊢
      rw [if_pos hg] at ih ⊢
      by_cases hb : l ≤ b
      · rw [if_pos hb, if_pos hb]
        by_cases hd : 2 ^ l ∣ u.2
        · have hgl := (gpl_iff hu hb).mpr hd
          rw [if_pos hgl] at ih
          rw [if_neg (fun z => z.2 hd), Nat.div_mul_cancel hd, ← ih]
          omega
        · have hgl : ¬ l ≤ gpl u.2 b := fun z => hd ((gpl_iff hu hb).mp z)
          rw [if_neg hgl] at ih
          rw [if_pos ⟨hg, hd⟩]
          omega
      · rw [if_neg hb, if_neg hb]
        have := gpl_le (b := b) hu
        rw [if_neg (by omega)] at ih
        omega
    · rw [if_neg hg]
      have ih := gru_cnt hl (b := b) (off := off + u.2) hp' h1'
      have z := h1 u List.mem_cons_self hg
      unfold gb
      rw [if_neg hg, if_neg (show ¬ (isG u ∧ ¬ 2 ^ l ∣ u.2) from fun q => hg q.1), cnt_cons, cnt_nil]
      by_cases hb : l ≤ b
      · rw [if_pos hb] at ih
        rw [if_pos hb, if_pos hb, ← ih]
        omega
      · rw [if_neg hb] at ih
        rw [if_neg hb, if_neg hb]
        omega
theorem gru_hl {U : List Un} {E : Nat} (hW : WU U) : Hl U E (lvs (gru E U)) := by
  have hf := fit_prs (gru E U) 0 [] rfl Al.nil
  rw [gru_prs hW] at hf
  exact ⟨hf, gru_dn hW.pos hW.p1, gru_le hW.pos hW.p1⟩
/-- with no bound the greatest row is the greatest history's -/
theorem gru_up {U : List Un} {E : Nat} (hW : WU U) {p : Nat} (hp : p < tot U) : lev (upLs U E []) p = lev (lvs (gru E U)) p := by
  have H := upHl (E := E) (bs := []) hW.ok
  have G := gru_hl (E := E) hW
  refine lev_eq H.dn G.dn (H.len.trans G.len.symm) (fun l => ?_) (by rw [H.len]; exact hp)
  rw [show cnt l (upLs U E []) = upE U E [] l from (up_rw hW.ok []).cnt l]
  unfold upE
  by_cases e : l = 0
  · rw [if_pos e, e, cnt_zero, G.len]
  · rw [if_neg e]
    have := gru_cnt (l := l) (by omega) (b := E) (off := 0) hW.pos hW.p1
    rw [Nat.zero_add] at this
    rw [this]
    by_cases h : l ≤ E
    · rw [if_pos h, if_pos h]
      show pu l U (tot U) = _
      have a := lp_pl l U 0 hW.pos
      rw [Nat.sub_zero] at a
      exact Nat.le_antisymm (le_lp (pu_pl hW.p1)) (pu_max hW.p1 a a.le_tot)
    · rw [if_neg h, if_neg h]
theorem low_nil {U : List Un} {E : Nat} (o : UOk U) {p : Nat} (hp : p < tot U) : lev (lowLs U E []) p = 0 := by
  have c : Cons U E [] := ⟨fun _ h => (nomatch h), fun _ h => (nomatch h), fun _ _ _ _ h => (nomatch h)⟩
  have H := c.lowHl o
  rcases Nat.eq_zero_or_pos (lev (lowLs U E []) p) with e | e
  · exact e
  · have := (lt_cnt (l := 1) H.dn (H.len ▸ hp)).mpr e
    rw [show cnt 1 (lowLs U E []) = lowR U [] 1 from (c.low o).cnt 1] at this
    have z : lowR U [] 1 = 0 := rfl
    omega
end Sl

end
section
set_option linter.all false
set_option autoImplicit false
namespace Sl
/-! ### a history as its characters -/
structure Hc (U : List Un) (E : Nat) (cs : List Ch) : Prop where
  prs : prs 0 cs = U
  dn : Dn (lvs cs)
  le : ∀ x ∈ lvs cs, x ≤ E
section
variable {U : List Un} {E : Nat} {cs : List Ch}
theorem Hc.hl (h : Hc U E cs) : Hl U E (lvs cs) := by
  have hf := fit_prs cs 0 [] rfl Al.nil
  rw [h.prs] at hf
  exact ⟨hf, h.dn, h.le⟩
theorem Hc.wu (h : Hc U E cs) : WU U := h.prs ▸ prs_wu cs 0
theorem hc_bwu (hW : WU U) {ls : List Nat} (h : Hl U E ls) : Hc U E (bwu U ls) ∧ lvs (bwu U ls) = ls := by
  obtain ⟨h1, h2⟩ := bwu_ok hW h.dn h.fit
  exact ⟨⟨h1, by rw [h2]; exact h.dn, by rw [h2]; exact h.le⟩, h2⟩
theorem hc_gru (hW : WU U) : Hc U E (gru E U) := ⟨gru_prs hW, (gru_hl hW).dn, (gru_hl hW).le⟩
theorem mem_lvs {c : Ch} : ∀ {cs : List Ch}, c ∈ cs → c.2 ∈ lvs cs
  | d :: r, h => by
    show c.2 ∈ List.replicate (wd d.1 d.2) d.2 ++ lvs r
    rcases List.mem_cons.mp h with e | h
    · rw [e]
      refine List.mem_append_left _ ?_
      rw [List.mem_replicate]
      have := wd_pos d.1 d.2
      omega
    · exact List.mem_append_right _ (mem_lvs h)
theorem chs_dn : ∀ {cs : List Ch}, Dn (lvs cs) → cs.Pairwise (fun a b => b.2 ≤ a.2)
  | [], _ => List.Pairwise.nil
  | d :: r, h => by
    have hp := List.pairwise_append.mp (show Dn (List.replicate (wd d.1 d.2) d.2 ++ lvs r) from h)
    refine List.pairwise_cons.mpr ⟨fun b hb => ?_, chs_dn hp.2.1⟩
    exact hp.2.2 d.2 (by rw [List.mem_replicate]; have := wd_pos d.1 d.2; omega) b.2 (mem_lvs hb)
end

/-! ### the character at a position -/
abbrev CT := Nat × Sy × Nat × Nat × Nat
def cAt : Nat → Nat → List Ch → Nat → Option CT
  | _, _, [], _ => none
  | n, st, c :: r, p => if p < st + wd c.1 c.2 then some (n, c.1, c.2, st, wd c.1 c.2) else cAt (n + 1) (st + wd c.1 c.2) r p
theorem cAt_rep {s : Sy} {l : Nat} (r : List Ch) {p : Nat} : ∀ (c n st : Nat), st ≤ p → cAt n st (List.replicate c (s, l) ++ r) p =
    if p < st + c * wd s l then some (n + (p - st) / wd s l, s, l, st + (p - st) / wd s l * wd s l, wd s l) else cAt (n + c) (st + c * wd s l) r p
  | 0, n, st, h => by
    rw [Nat.zero_mul, Nat.add_zero, Nat.add_zero, if_neg (by omega)]
    rfl
  | c + 1, n, st, h => by
    have hw := wd_pos s l
    rw [List.replicate_succ, List.cons_append]
    show (if p < st + wd s l then some (n, s, l, st, wd s l) else cAt (n + 1) (st + wd s l) (List.replicate c (s, l) ++ r) p) = _
    have e : (c + 1) * wd s l = wd s l + c * wd s l := by rw [Nat.succ_mul, Nat.add_comm]
    rw [e]
    by_cases h1 : p < st + wd s l
    · have z : (p - st) / wd s l = 0 := Nat.div_eq_of_lt (by omega)
      rw [if_pos h1, if_pos (by omega), z, Nat.zero_mul]
      rfl
    · rw [if_neg h1, cAt_rep r c (n + 1) (st + wd s l) (by omega)]
      have d : (p - st) / wd s l = (p - (st + wd s l)) / wd s l + 1 := by
        rw [← Nat.add_div_right _ hw]
        congr 1
        omega
      by_cases h2 : p < st + wd s l + c * wd s l
      · rw [if_pos h2, if_pos (by omega), d, Nat.add_mul, Nat.one_mul]
        have e1 : n + 1 + (p - (st + wd s l)) / wd s l = n + ((p - (st + wd s l)) / wd s l + 1) := by omega
        have e2 : st + wd s l + (p - (st + wd s l)) / wd s l * wd s l = st + ((p - (st + wd s l)) / wd s l * wd s l + wd s l) := by omega
        rw [e1, e2]
      · rw [if_neg h2, if_neg (by omega)]
        have e1 : n + 1 + c = n + (c + 1) := by omega
        have e2 : st + wd s l + c * wd s l = st + (wd s l + c * wd s l) := by omega
        rw [e1, e2]
/-- what the character at a position is -/
structure CAt (ls : List Nat) (st0 p : Nat) (t : CT) : Prop where
  lv : ls[p - st0]? = some t.2.2.1
  st : t.2.2.2.1 ≤ p
  en : p < t.2.2.2.1 + t.2.2.2.2
theorem cAt_some : ∀ {cs : List Ch} {n st p : Nat}, st ≤ p → p < st + (lvs cs).length → ∃ t, cAt n st cs p = some t ∧ CAt (lvs cs) st p t
  | [], n, st, p, h1, h2 => by
    have : p < st + 0 := h2
    omega
  | c :: r, n, st, p, h1, h2 => by
    have h2' : p < st + (List.replicate (wd c.1 c.2) c.2 ++ lvs r).length := h2
    rw [List.length_append, List.length_replicate] at h2'
    show ∃ t, (if p < st + wd c.1 c.2 then some (n, c.1, c.2, st, wd c.1 c.2) else cAt (n + 1) (st + wd c.1 c.2) r p) = some t ∧ CAt (List.replicate (wd c.1 c.2) c.2 ++ lvs r) st p t
    by_cases h : p < st + wd c.1 c.2
    · rw [if_pos h]
      refine ⟨_, rfl, ?_, h1, h⟩
      rw [List.getElem?_append_left (by rw [List.length_replicate]; omega), List.getElem?_replicate, if_pos (by omega)]
    · rw [if_neg h]
      obtain ⟨t, e, q1, q2, q3⟩ := cAt_some (cs := r) (n := n + 1) (st := st + wd c.1 c.2) (p := p) (by omega) (by omega)
      refine ⟨t, e, ?_, q2, q3⟩
      rw [List.getElem?_append_right (by rw [List.length_replicate]; omega), List.length_replicate, Nat.sub_sub]
      exact q1
theorem prs_first {w : Nat} (hw : 1 ≤ w) : ∀ cs : List Ch, ∃ u r, prs w cs = u :: r ∧ isG u ∧ w ≤ u.2 := by
  intro cs
  induction cs generalizing w with
  | nil =>
    refine ⟨(sB, w), [], ?_, .inl rfl, Nat.le_refl _⟩
    show fl w = _
    unfold fl
    rw [if_neg (by omega)]
  | cons c cs ih =>
    obtain ⟨s, l⟩ := c
    by_cases hB : s = sB
    · subst hB
      rw [prs_B]
      obtain ⟨u, r, e, g, q⟩ := ih (w := w + 2 ^ l) (Nat.le_trans hw (Nat.le_add_right _ _))
      exact ⟨u, r, e, g, Nat.le_trans (Nat.le_add_right _ _) q⟩
    · by_cases hQ : s = sQ
      · subst hQ; rw [prs_Q]; exact ⟨_, _, rfl, .inr rfl, Nat.le_add_right _ _⟩
      · rw [prs_P _ _ hB hQ]
        refine ⟨(sB, w), (s, 1) :: prs 0 cs, ?_, .inl rfl, Nat.le_refl _⟩
        unfold fl
        rw [if_neg (by omega)]
        rfl
/-- where the character at p begins within its group -/
def CGrp (g : Option (Nat × Nat)) (p : Nat) (t : CT) : Prop := match g with
  | none => t.2.2.2.1 = p
  | some g => g.1 ≤ t.2.2.2.1 ∧ 2 ^ t.2.2.1 ∣ t.2.2.2.1 - g.1 ∧ t.2.2.2.2 = 2 ^ t.2.2.1
theorem cAt_grp : ∀ {cs : List Ch} {w n st p : Nat} {t : CT}, cs.Pairwise (fun a b => b.2 ≤ a.2) → (∀ c ∈ cs, 2 ^ c.2 ∣ w) → w ≤ st → st ≤ p → cAt n st cs p = some t → CGrp (gwU (st - w) (prs w cs) p) p t
  | [], _, _, _, _, _, _, _, _, _, e => nomatch e
  | (s, l) :: cs, w, n, st, p, t, hs, hw, h1, h2, e => by
    have hp := List.pairwise_cons.mp hs
    have hl := Nat.two_pow_pos l
    have hwl : 2 ^ l ∣ w := hw (s, l) List.mem_cons_self
    have e' : (if p < st + wd s l then some (n, s, l, st, wd s l) else cAt (n + 1) (st + wd s l) cs p) = some t := e
    have dv : ∀ c ∈ cs, 2 ^ c.2 ∣ w + 2 ^ l := fun c hc => Nat.dvd_add (Nat.dvd_trans (Nat.pow_dvd_pow 2 (hp.1 c hc)) hwl) (Nat.pow_dvd_pow 2 (hp.1 c hc))
    by_cases hB : s = sB
    · subst hB
      rw [wd_B] at e'
      rw [prs_B]
      by_cases hpl : p < st + 2 ^ l
      · rw [if_pos hpl] at e'
        cases e'
        obtain ⟨u, r, eu, gu, lu⟩ := prs_first (w := w + 2 ^ l) (by omega) cs
        rw [eu]
        have eg : gwU (st - w) (u :: r) p = some (st - w, u.2) := by
          unfold gwU
          rw [if_pos (by omega), if_pos gu]
        rw [eg]
        refine ⟨Nat.sub_le _ _, ?_, rfl⟩
        show 2 ^ l ∣ st - (st - w)
        have : st - (st - w) = w := by omega
        rw [this]; exact hwl
      · rw [if_neg hpl] at e'
        have ih := cAt_grp (w := w + 2 ^ l) (st := st + 2 ^ l) hp.2 dv (by omega) (by omega) e'
        have : st + 2 ^ l - (w + 2 ^ l) = st - w := by omega
        rw [this] at ih
        exact ih
    · by_cases hQ : s = sQ
      · subst hQ
        rw [wd_Q] at e'
        rw [prs_Q]
        unfold gwU
        by_cases hpl : p < st + 2 ^ l
        · rw [if_pos hpl] at e'
          cases e'
          rw [if_pos (show p < st - w + (w + 2 ^ l) by omega), if_pos (show isG (sQ, w + 2 ^ l) from .inr rfl)]
          refine ⟨Nat.sub_le _ _, ?_, rfl⟩
          show 2 ^ l ∣ st - (st - w)
          have : st - (st - w) = w := by omega
          rw [this]; exact hwl
        · rw [if_neg hpl] at e'
          rw [if_neg (show ¬ p < st - w + (w + 2 ^ l) by omega)]
          have ih := cAt_grp (w := 0) (st := st + 2 ^ l) hp.2 (fun c _ => ⟨0, rfl⟩) (Nat.zero_le _) (by omega) e'
          have : st - w + (w + 2 ^ l) = st + 2 ^ l - 0 := by omega
          show CGrp (gwU (st - w + (w + 2 ^ l)) (prs 0 cs) p) p t
          rw [this]
          exact ih
      · rw [wd_p l hB hQ] at e'
        rw [prs_P _ _ hB hQ]
        have skip : gwU (st - w) (fl w ++ (s, 1) :: prs 0 cs) p = gwU st ((s, 1) :: prs 0 cs) p := by
          unfold fl
          by_cases w0 : w = 0
          · rw [if_pos w0, w0]; rfl
          · rw [if_neg w0]
            show gwU (st - w) ((sB, w) :: (s, 1) :: prs 0 cs) p = _
            conv => lhs; unfold gwU
            rw [if_neg (show ¬ p < st - w + w by omega)]
            have : st - w + w = st := by omega
            show gwU (st - w + w) _ p = _
            rw [this]
        rw [skip]
        unfold gwU
        have ng : ¬ isG (s, 1) := fun z => z.elim hB hQ
        by_cases hpl : p < st + 1
        · rw [if_pos hpl] at e'
          cases e'
          rw [if_pos (show p < st + (s, 1).2 from hpl), if_neg ng]
          show st = p
          omega
        · rw [if_neg hpl] at e'
          rw [if_neg (show ¬ p < st + (s, 1).2 from hpl)]
          exact cAt_grp (w := 0) (st := st + 1) hp.2 (fun c _ => ⟨0, rfl⟩) (Nat.zero_le _) (by omega) e'
theorem v2_ex (d : Nat) (h : 0 < d) : ∃ v, 2 ^ v ∣ d ∧ ¬ 2 ^ (v + 1) ∣ d := by
  have : ∀ n d, d ≤ n → 0 < d → ∃ v, 2 ^ v ∣ d ∧ ¬ 2 ^ (v + 1) ∣ d := by
    intro n
    induction n with
    | zero => intro d h1 h2; omega
    | succ n ih =>
      intro d h1 h2
      by_cases hd : 2 ∣ d
      · obtain ⟨k, rfl⟩ := hd
        obtain ⟨v, a, b⟩ := ih k (by omega) (by omega)
        refine ⟨v + 1, ?_, fun q => b ?_⟩
        · rw [Nat.pow_succ, Nat.mul_comm]; exact Nat.mul_dvd_mul_left 2 a
        · rw [Nat.pow_succ, Nat.mul_comm] at q
          exact Nat.dvd_of_mul_dvd_mul_left (by omega) q
      · exact ⟨0, ⟨d, by simp⟩, by simpa using hd⟩
  exact this d d (Nat.le_refl _) h
noncomputable def v2 (d : Nat) : Nat := open Classical in if h : 0 < d then Classical.choose (v2_ex d h) else 0
theorem v2_spec {d : Nat} (h : 0 < d) : 2 ^ v2 d ∣ d ∧ ¬ 2 ^ (v2 d + 1) ∣ d := by
  unfold v2
  rw [dif_pos h]
  exact Classical.choose_spec (v2_ex d h)
theorem v2_dvd {d x : Nat} (h : 0 < d) : 2 ^ x ∣ d ↔ x ≤ v2 d := by
  obtain ⟨a, b⟩ := v2_spec h
  constructor
  · intro q
    rcases Nat.lt_or_ge (v2 d) x with z | z
    · exact absurd (Nat.dvd_trans (Nat.pow_dvd_pow 2 z) q) b
    · exact z
  · intro q
    exact Nat.dvd_trans (Nat.pow_dvd_pow 2 q) a
theorem v2_uniq {d v : Nat} (h : 0 < d) (h1 : 2 ^ v ∣ d) (h2 : ¬ 2 ^ (v + 1) ∣ d) : v = v2 d := by
  have a := (v2_dvd h).mp h1
  have b : ¬ v + 1 ≤ v2 d := fun q => h2 ((v2_dvd h).mpr q)
  omega
/-- the greatest level with which a character can begin at a position -/
noncomputable def ilv (g : Option (Nat × Nat)) (p : Nat) : Option Nat := match g with
  | none => none
  | some g => if g.1 = p then none else some (v2 (p - g.1))
noncomputable def il (U : List Un) (p : Nat) : Option Nat := ilv (gwU 0 U p) p
theorem gwU_le : ∀ {U : List Un} {off p : Nat} {g : Nat × Nat}, off ≤ p → gwU off U p = some g → g.1 ≤ p ∧ p < g.1 + g.2
  | [], _, _, _, _, h => nomatch h
  | u :: U, off, p, g, h1, h => by
    unfold gwU at h
    by_cases h2 : p < off + u.2
    · rw [if_pos h2] at h
      by_cases hg : isG u
      · rw [if_pos hg] at h
        cases h
        exact ⟨h1, h2⟩
      · rw [if_neg hg] at h; cases h
    · rw [if_neg h2] at h
      exact gwU_le (by omega) h
/-- a character begins at p exactly if its level there is small enough -/
theorem Hc.starts {U : List Un} {E : Nat} {cs : List Ch} (h : Hc U E cs) {p : Nat} (hp : p < tot U) {t : CT} (e : cAt 0 0 cs p = some t) :
    t.2.2.1 = lev (lvs cs) p ∧ (match il U p with
      | none => t.2.2.2.1 = p
      | some v => (t.2.2.2.1 = p ↔ lev (lvs cs) p ≤ v)) := by
  obtain ⟨t', e', a1, a2, a3⟩ := cAt_some (cs := cs) (n := 0) (st := 0) (p := p) (Nat.zero_le _) (by rw [h.hl.len]; omega)
  rw [e] at e'
  cases e'
  have hl : t.2.2.1 = lev (lvs cs) p := by
    rw [Nat.sub_zero, lev_get (by rw [h.hl.len]; exact hp)] at a1
    exact (Option.some.inj a1).symm
  refine ⟨hl, ?_⟩
  have g := cAt_grp (w := 0) (chs_dn h.dn) (fun _ _ => ⟨0, rfl⟩) (Nat.zero_le _) (Nat.zero_le _) e
  rw [h.prs, Nat.sub_zero] at g
  unfold il
  cases eg : gwU 0 U p with
  | none =>
    rw [eg] at g
    exact g
  | some g0 =>
    rw [eg] at g
    obtain ⟨b1, b2, b3⟩ := g
    have b4 := gwU_le (Nat.zero_le _) eg
    unfold ilv
    by_cases hg : g0.1 = p
    · show (match (if g0.1 = p then none else some (v2 (p - g0.1))) with
        | none => t.2.2.2.1 = p
        | some v => (t.2.2.2.1 = p ↔ lev (lvs cs) p ≤ v))
      rw [if_pos hg]
      show t.2.2.2.1 = p
      omega
    · show (match (if g0.1 = p then none else some (v2 (p - g0.1))) with
        | none => t.2.2.2.1 = p
        | some v => (t.2.2.2.1 = p ↔ lev (lvs cs) p ≤ v))
      rw [if_neg hg]
      show t.2.2.2.1 = p ↔ lev (lvs cs) p ≤ v2 (p - g0.1)
      rw [← v2_dvd (by omega), ← hl]
      constructor
      · intro q; rw [q] at b2; exact b2
      · intro q
        have d : 2 ^ t.2.2.1 ∣ p - t.2.2.2.1 := by
          have : p - g0.1 = (t.2.2.2.1 - g0.1) + (p - t.2.2.2.1) := by omega
          rw [this] at q
          exact (Nat.dvd_add_right b2).mp q
        rw [b3] at a3
        rcases Nat.eq_zero_or_pos (p - t.2.2.2.1) with z | z
        · omega
        · have := Nat.le_of_dvd z d
          omega

/-! ### the character with a number; lowering it -/
def nA (cs : List Ch) (k : Nat) : Option CT := cs[k]?.map fun c => (k, c.1, c.2, (lvs (cs.take k)).length, wd c.1 c.2)
theorem nA_rep {pre post : List Ch} {s : Sy} {l c k : Nat} (h1 : pre.length ≤ k) (h2 : k < pre.length + c) :
    nA (pre ++ (List.replicate c (s, l) ++ post)) k = some (k, s, l, (lvs pre).length + (k - pre.length) * wd s l, wd s l) := by
  unfold nA
  rw [List.getElem?_append_right h1, List.getElem?_append_left (by rw [List.length_replicate]; omega), List.getElem?_replicate, if_pos (by omega)]
  show some (k, s, l, (lvs ((pre ++ (List.replicate c (s, l) ++ post)).take k)).length, wd s l) = _
  have e : (pre ++ (List.replicate c (s, l) ++ post)).take k = pre ++ List.replicate (k - pre.length) (s, l) := by
    rw [List.take_append, List.take_of_length_le h1, List.take_append, List.take_replicate, List.length_replicate]
    have : k - pre.length - c = 0 := by omega
    rw [this, List.take_zero, List.append_nil, Nat.min_eq_left (by omega)]
  rw [e, lvs_app, lvs_rep, List.length_append, List.length_replicate]
def lowCh (c : Ch) : List Ch := if c.1 = sB then [(sB, c.2 - 1), (sB, c.2 - 1)] else if c.1 = sQ then [(sB, c.2 - 1), (sQ, c.2 - 1)] else [(c.1, c.2 - 1)]
theorem two_half {l : Nat} (h : 1 ≤ l) : 2 ^ (l - 1) + 2 ^ (l - 1) = 2 ^ l := by
  obtain ⟨m, rfl⟩ : ∃ m, l = m + 1 := ⟨l - 1, by omega⟩
  rw [Nat.add_sub_cancel, Nat.pow_succ]
  omega
theorem lowCh_lv {c : Ch} (h : 1 ≤ c.2) : lvs (lowCh c) = List.replicate (wd c.1 c.2) (c.2 - 1) := by
  obtain ⟨s, l⟩ := c
  unfold lowCh
  by_cases hB : s = sB
  · subst hB
    rw [if_pos rfl]
    show List.replicate (wd sB (l - 1)) (l - 1) ++ (List.replicate (wd sB (l - 1)) (l - 1) ++ []) = List.replicate (wd sB l) (l - 1)
    rw [List.append_nil, wd_B, wd_B, List.replicate_append_replicate, two_half h]
  · by_cases hQ : s = sQ
    · subst hQ
      rw [if_neg sQB, if_pos rfl]
      show List.replicate (wd sB (l - 1)) (l - 1) ++ (List.replicate (wd sQ (l - 1)) (l - 1) ++ []) = List.replicate (wd sQ l) (l - 1)
      rw [List.append_nil, wd_B, wd_Q, wd_Q, List.replicate_append_replicate, two_half h]
    · rw [if_neg hB, if_neg hQ]
      show List.replicate (wd s (l - 1)) (l - 1) ++ [] = List.replicate (wd s l) (l - 1)
      rw [List.append_nil, wd_p _ hB hQ, wd_p _ hB hQ]
theorem lowCh_prs {c : Ch} (h : 1 ≤ c.2) (w : Nat) (r : List Ch) : prs w (lowCh c ++ r) = prs w (c :: r) := by
  obtain ⟨s, l⟩ := c
  unfold lowCh
  by_cases hB : s = sB
  · subst hB
    rw [if_pos rfl, prs_B]
    show prs w ((sB, l - 1) :: (sB, l - 1) :: r) = _
    rw [prs_B, prs_B, Nat.add_assoc, two_half h]
  · by_cases hQ : s = sQ
    · subst hQ
      rw [if_neg sQB, if_pos rfl, prs_Q]
      show prs w ((sB, l - 1) :: (sQ, l - 1) :: r) = _
      rw [prs_B, prs_Q, Nat.add_assoc, two_half h]
    · rw [if_neg hB, if_neg hQ, prs_P _ _ hB hQ]
      show prs w ((s, l - 1) :: r) = _
      rw [prs_P _ _ hB hQ]
theorem prs_cut {a b : List Ch} (h : ∀ w, prs w a = prs w b) : ∀ (pre : List Ch) (w : Nat), prs w (pre ++ a) = prs w (pre ++ b)
  | [], w => h w
  | (s, l) :: pre, w => by
    show prs w ((s, l) :: (pre ++ a)) = prs w ((s, l) :: (pre ++ b))
    by_cases hB : s = sB
    · subst hB; rw [prs_B, prs_B, prs_cut h pre]
    · by_cases hQ : s = sQ
      · subst hQ; rw [prs_Q, prs_Q, prs_cut h pre]
      · rw [prs_P _ _ hB hQ, prs_P _ _ hB hQ, prs_cut h pre]
/-- the levels in which some positions have another level -/
def wLev (ls : List Nat) (st sz l : Nat) : List Nat := ls.take st ++ (List.replicate sz l ++ ls.drop (st + sz))
theorem Hc.low {U : List Un} {E : Nat} {cs : List Ch} (h : Hc U E cs) {k : Nat} {s : Sy} {l st sz : Nat} (hk : nA cs k = some (k, s, l, st, sz)) (h0 : l ≠ 0)
    (hn : ∀ t, nA cs (k + 1) = some t → t.2.2.1 ≠ l) : Hl U E (wLev (lvs cs) st sz (l - 1)) ∧ st + sz ≤ tot U := by
  unfold nA at hk
  cases ek : cs[k]? with
  | none => rw [ek] at hk; cases hk
  | some c =>
    rw [ek] at hk
    have hk' : (k, c.1, c.2, (lvs (cs.take k)).length, wd c.1 c.2) = (k, s, l, st, sz) := Option.some.inj hk
    have e1 : c.1 = s := by injection hk' with _ q; injection q
    have e2 : c.2 = l := by injection hk' with _ q; injection q with _ q; injection q
    have e3 : (lvs (cs.take k)).length = st := by injection hk' with _ q; injection q with _ q; injection q with _ q; injection q
    have e4 : wd c.1 c.2 = sz := by injection hk' with _ q; injection q with _ q; injection q with _ q; injection q
    have hc : 1 ≤ c.2 := by omega
    obtain ⟨hkl, ekl⟩ := List.getElem?_eq_some_iff.mp ek
    have split : cs = cs.take k ++ (c :: cs.drop (k + 1)) := by
      conv => lhs; rw [← List.take_append_drop k cs, List.drop_eq_getElem_cons hkl, ekl]
    generalize hA : cs.take k = A at split e3
    generalize hC : cs.drop (k + 1) = C at split
    have lsplit : lvs cs = lvs A ++ (List.replicate (wd c.1 c.2) c.2 ++ lvs C) := by
      rw [split, lvs_app]; rfl
    have hw : wLev (lvs cs) st sz (l - 1) = lvs (A ++ (lowCh c ++ C)) := by
      unfold wLev
      rw [lvs_app, lvs_app, lowCh_lv hc, lsplit, ← e3, ← e4, ← e2, List.take_left]
      congr 2
      rw [← List.drop_drop, List.drop_left]
      exact List.drop_left' (by rw [List.length_replicate])
    have hd := h.dn
    rw [lsplit] at hd
    have hd1 := List.pairwise_append.mp hd
    have hd2 := List.pairwise_append.mp hd1.2.1
    have wp := wd_pos c.1 c.2
    have mc : c.2 ∈ List.replicate (wd c.1 c.2) c.2 := by rw [List.mem_replicate]; omega
    -- what follows has smaller levels
    have hC1 : ∀ y ∈ lvs C, y ≤ c.2 - 1 := by
      cases C with
      | nil => intro y hy; cases hy
      | cons d r =>
        have hd3 : cs[k + 1]? = some d := by
          have := congrArg List.head? hC
          rw [List.head?_drop] at this
          exact this
        have ne := hn (k + 1, d.1, d.2, (lvs (cs.take (k + 1))).length, wd d.1 d.2) (by unfold nA; rw [hd3]; rfl)
        have ne' : d.2 ≠ l := ne
        have le : d.2 ≤ c.2 := hd2.2.2 c.2 mc d.2 (mem_lvs List.mem_cons_self)
        intro y hy
        have hy' : y ∈ List.replicate (wd d.1 d.2) d.2 ++ lvs r := hy
        have yd : y ≤ d.2 := by
          rcases List.mem_append.mp hy' with z | z
          · rw [List.eq_of_mem_replicate z]; exact Nat.le_refl _
          · have := hd2.2.1
            have := List.pairwise_append.mp (show Dn (List.replicate (wd d.1 d.2) d.2 ++ lvs r) from this)
            exact this.2.2 d.2 (by rw [List.mem_replicate]; have := wd_pos d.1 d.2; omega) y z
        omega
    have hp : Sl.prs 0 (A ++ (lowCh c ++ C)) = U := by
      rw [prs_cut (fun w => lowCh_prs hc w C) A 0, ← split]
      exact h.prs
    rw [hw]
    refine ⟨?_, ?_⟩
    · have hf := fit_prs (A ++ (lowCh c ++ C)) 0 [] rfl Al.nil
      rw [hp] at hf
      refine ⟨hf, ?_, ?_⟩
      · rw [lvs_app, lvs_app, lowCh_lv hc]
        refine List.pairwise_append.mpr ⟨hd1.1, List.pairwise_append.mpr ⟨Dn.rep _ _, hd2.2.1, fun a ha b hb => ?_⟩, fun a ha b hb => ?_⟩
        · rw [List.eq_of_mem_replicate ha]; exact hC1 b hb
        · have hac := hd1.2.2 a ha c.2 (List.mem_append_left _ mc)
          rcases List.mem_append.mp hb with z | z
          · rw [List.eq_of_mem_replicate z]; omega
          · have := hC1 b z; omega
      · intro x hx
        have hle := h.le
        rw [lsplit] at hle
        rw [lvs_app, lvs_app, lowCh_lv hc] at hx
        rcases List.mem_append.mp hx with z | z
        · exact hle x (List.mem_append_left _ z)
        · rcases List.mem_append.mp z with z | z
          · rw [List.eq_of_mem_replicate z]
            have := hle c.2 (List.mem_append_right _ (List.mem_append_left _ mc))
            omega
          · exact hle x (List.mem_append_right _ (List.mem_append_right _ z))
    · have := h.hl.len
      rw [lsplit, List.length_append, List.length_append, List.length_replicate] at this
      omega
end Sl

end
section
set_option linter.all false
set_option autoImplicit false
namespace Sl
/-! ### the parts and the groups of a text, as the program finds them -/
abbrev Rn := List (Sy × Nat)
/-- start, symbol (none: a group), size, quoted, many -/
abbrev PtD := Nat × Option Sy × Nat × Bool × Nat
abbrev GrD := Nat × Nat × Bool × Nat
def ptM : Nat → Nat → Rn → List PtD
  | st, w, [] => if 0 < w then [(st - w, none, w, false, 1)] else []
  | st, w, x :: r => if x.1 = sB then ptM (st + x.2) x.2 r
    else if x.1 = sQ then (if 0 < w then [(st - w, none, w + 1, true, 1)] else []) ++ (if (if 0 < w then 1 else 0) < x.2 then [(st + (if 0 < w then 1 else 0), none, 1, true, x.2 - (if 0 < w then 1 else 0))] else []) ++ ptM (st + x.2) 0 r
    else (if 0 < w then [(st - w, none, w, false, 1)] else []) ++ [(st, some x.1, x.2, false, 1)] ++ ptM (st + x.2) 0 r
def grM (ps : List PtD) : List GrD := ps.filterMap fun p => match p.2.1 with
  | none => some (p.1, p.2.2.1, p.2.2.2.1, p.2.2.2.2)
  | some _ => none
theorem grM_app (a b : List PtD) : grM (a ++ b) = grM a ++ grM b := List.filterMap_append
/-- group_with -/
def gfd : List GrD → Nat → Option (Nat × Nat)
  | [], _ => none
  | g :: r, p => if g.1 ≤ p ∧ p < g.1 + g.2.1 * g.2.2.2 then some (if 1 < g.2.2.2 then (p, 1) else (g.1, g.2.1)) else gfd r p
/-- last_place -/
def gls (l n : Nat) : List GrD → Nat
  | [] => n
  | g :: r => if g.2.1 % 2 ^ l ≠ 0 then g.1 + g.2.1 / 2 ^ l * 2 ^ l else gls l n r
theorem gfd_app : ∀ (a b : List GrD) (p : Nat), (∀ g ∈ a, ¬ (g.1 ≤ p ∧ p < g.1 + g.2.1 * g.2.2.2)) → gfd (a ++ b) p = gfd b p
  | [], _, _, _ => rfl
  | g :: r, b, p, h => by
    show (if g.1 ≤ p ∧ p < g.1 + g.2.1 * g.2.2.2 then _ else gfd (r ++ b) p) = _
    rw [if_neg (h g List.mem_cons_self), gfd_app r b p fun x hx => h x (List.mem_cons_of_mem _ hx)]
theorem gfd_hit (g : GrD) (r : List GrD) {p : Nat} (h : g.1 ≤ p ∧ p < g.1 + g.2.1 * g.2.2.2) : gfd (g :: r) p = some (if 1 < g.2.2.2 then (p, 1) else (g.1, g.2.1)) := if_pos h
theorem gfd_miss (g : GrD) (r : List GrD) {p : Nat} (h : ¬ (g.1 ≤ p ∧ p < g.1 + g.2.1 * g.2.2.2)) : gfd (g :: r) p = gfd r p := if_neg h
/-- behind backslashes no run of backslashes follows -/
def HdOk (w : Nat) (r : Rn) : Prop := 0 < w → ∀ x, r.head? = some x → x.1 ≠ sB
theorem prs_run_B (w c : Nat) (r : Rn) : prs w (ch0 (exR ((sB, c) :: r))) = prs (w + c) (ch0 (exR r)) := by
  rw [exR_cons, ch0_app, ch0_rep, prs_app_B, Nat.pow_zero, Nat.mul_one]
theorem prs_rep_Q : ∀ (c : Nat) (cs : List Ch), prs 0 (List.replicate c (sQ, 0) ++ cs) = List.replicate c (sQ, 1) ++ prs 0 cs
  | 0, _ => rfl
  | c + 1, cs => by
    rw [List.replicate_succ, List.cons_append, prs_Q, prs_rep_Q c cs]
    rfl
theorem prs_run_Q (w : Nat) {c : Nat} (hc : 1 ≤ c) (r : Rn) : prs w (ch0 (exR ((sQ, c) :: r))) = (sQ, w + 1) :: (List.replicate (c - 1) (sQ, 1) ++ prs 0 (ch0 (exR r))) := by
  rw [exR_cons, ch0_app, ch0_rep]
  obtain ⟨d, rfl⟩ : ∃ d, c = d + 1 := ⟨c - 1, by omega⟩
  show prs w (List.replicate (d + 1) (sQ, 0) ++ _) = _
  rw [List.replicate_succ, List.cons_append, prs_Q, prs_rep_Q]
  rfl
theorem prs_run_P (w : Nat) {s : Sy} (h1 : s ≠ sB) (h2 : s ≠ sQ) {c : Nat} (hc : 1 ≤ c) (r : Rn) : prs w (ch0 (exR ((s, c) :: r))) = fl w ++ (List.replicate c (s, 1) ++ prs 0 (ch0 (exR r))) := by
  rw [exR_cons, ch0_app, ch0_rep]
  obtain ⟨d, rfl⟩ : ∃ d, c = d + 1 := ⟨c - 1, by omega⟩
  show prs w (List.replicate (d + 1) (s, 0) ++ _) = _
  rw [List.replicate_succ, List.cons_append, prs_P _ _ h1 h2]
  have := prs_map s h1 h2 (ch0 (exR r)) (List.replicate d 0)
  rw [List.map_replicate, List.length_replicate] at this
  rw [this, List.replicate_succ]
  rfl
theorem gwU_skip : ∀ (A B : List Un) (off : Nat) {p : Nat}, off + tot A ≤ p → gwU off (A ++ B) p = gwU (off + tot A) B p
  | [], B, off, p, _ => rfl
  | u :: A, B, off, p, h => by
    have h' : off + (u.2 + tot A) ≤ p := h
    show gwU off (u :: (A ++ B)) p = gwU (off + (u.2 + tot A)) B p
    conv => lhs; unfold gwU
    rw [if_neg (by omega)]
    show gwU (off + u.2) (A ++ B) p = _
    rw [gwU_skip A B (off + u.2) (by omega), Nat.add_assoc]
theorem gwU_repP {s : Sy} (hg : ¬ isG (s, 1)) (B : List Un) {p : Nat} : ∀ (c off : Nat), off ≤ p → p < off + c → gwU off (List.replicate c (s, 1) ++ B) p = none
  | 0, off, h1, h2 => by omega
  | c + 1, off, h1, h2 => by
    rw [List.replicate_succ, List.cons_append]
    unfold gwU
    by_cases h : p < off + 1
    · rw [if_pos (show p < off + (s, 1).2 from h), if_neg hg]
    · rw [if_neg (show ¬ p < off + (s, 1).2 from h)]
      exact gwU_repP hg B c (off + 1) (by omega) (by omega)
theorem gwU_repQ {s : Sy} (hg : isG (s, 1)) (B : List Un) {p : Nat} : ∀ (c off : Nat), off ≤ p → p < off + c → gwU off (List.replicate c (s, 1) ++ B) p = some (p, 1)
  | 0, off, h1, h2 => by omega
  | c + 1, off, h1, h2 => by
    rw [List.replicate_succ, List.cons_append]
    unfold gwU
    by_cases h : p < off + 1
    · rw [if_pos (show p < off + (s, 1).2 from h), if_pos hg]
      have : off = p := by omega
      rw [this]
    · rw [if_neg (show ¬ p < off + (s, 1).2 from h)]
      exact gwU_repQ hg B c (off + 1) (by omega) (by omega)
theorem tot_rep (s : Sy) : ∀ c, tot (List.replicate c (s, 1)) = c
  | 0 => rfl
  | c + 1 => by
    rw [List.replicate_succ]
    show 1 + tot (List.replicate c (s, 1)) = c + 1
    rw [tot_rep s c]
    omega
theorem tot_fl (w : Nat) : tot (fl w) = w := by
  unfold fl
  split
  · rename_i e; rw [e]; rfl
  · rfl
/-- groups begin behind what was read -/
theorem ptM_ge : ∀ (r : Rn) (st w : Nat), w ≤ st → ∀ g ∈ grM (ptM st w r), st - w ≤ g.1
  | [], st, w, hw, g, hg => by
    unfold ptM at hg
    by_cases h : 0 < w
    · rw [if_pos h] at hg
      have : g = (st - w, w, false, 1) := List.mem_singleton.mp hg
      rw [this]; exact Nat.le_refl _
    · rw [if_neg h] at hg; cases hg
  | (s, c) :: r, st, w, hw, g, hg => by
    unfold ptM at hg
    by_cases hB : s = sB
    · rw [if_pos hB] at hg
      have : st + c - c ≤ g.1 := ptM_ge r (st + c) c (by omega) g hg
      omega
    · rw [if_neg hB] at hg
      by_cases hQ : s = sQ
      · rw [if_pos hQ, grM_app, grM_app] at hg
        rcases List.mem_append.mp hg with z | z
        · rcases List.mem_append.mp z with z | z
          · by_cases h : 0 < w
            · rw [if_pos h] at z
              have : g = (st - w, w + 1, true, 1) := List.mem_singleton.mp z
              rw [this]; exact Nat.le_refl _
            · rw [if_neg h] at z; cases z
          · generalize (if 0 < w then 1 else 0) = j at z
            by_cases h : j < c
            · rw [if_pos (show j < (s, c).2 from h)] at z
              have : g = (st + j, 1, true, c - j) := List.mem_singleton.mp z
              rw [this]
              show st - w ≤ st + j
              omega
            · rw [if_neg (show ¬ j < (s, c).2 from h)] at z; cases z
        · have : st + c - 0 ≤ g.1 := ptM_ge r (st + c) 0 (by omega) g z
          omega
      · rw [if_neg hQ, grM_app, grM_app] at hg
        rcases List.mem_append.mp hg with z | z
        · rcases List.mem_append.mp z with z | z
          · by_cases h : 0 < w
            · rw [if_pos h] at z
              have : g = (st - w, w, false, 1) := List.mem_singleton.mp z
              rw [this]; exact Nat.le_refl _
            · rw [if_neg h] at z; cases z
          · cases z
        · have : st + c - 0 ≤ g.1 := ptM_ge r (st + c) 0 (by omega) g z
          omega
theorem gfd_below {r : Rn} {st w p : Nat} (hw : w ≤ st) (hp : p < st - w) : gfd (grM (ptM st w r)) p = none := by
  have := gfd_app (grM (ptM st w r)) [] p fun g hg q => by
    have := ptM_ge r st w hw g hg
    omega
  rw [List.append_nil] at this
  exact this
/-- what the program finds at a position is the group there -/
theorem gfd_gwU : ∀ (r : Rn) (st w : Nat) {p : Nat}, (∀ x ∈ r, 1 ≤ x.2) → Nb (fun a b => ¬ (a.1 = b.1 ∧ yes b.1 = true)) r → HdOk w r → w ≤ st → st - w ≤ p → gfd (grM (ptM st w r)) p = gwU (st - w) (prs w (ch0 (exR r))) p
  | [], st, w, p, _, _, _, hw, hp => by
    show gfd (grM (if 0 < w then [(st - w, none, w, false, 1)] else [])) p = gwU (st - w) (fl w) p
    unfold fl
    by_cases h : 0 < w
    · rw [if_pos h, if_neg (by omega)]
      show gfd [(st - w, w, false, 1)] p = gwU (st - w) [(sB, w)] p
      unfold gwU
      by_cases h2 : p < st - w + w
      · rw [gfd_hit _ _ ⟨hp, (show p < st - w + w * 1 by omega)⟩, if_pos (show p < st - w + (sB, w).2 from h2), if_pos (show isG (sB, w) from .inl rfl)]
        rfl
      · rw [gfd_miss _ _ (fun q => h2 (show p < st - w + w by have : p < st - w + w * 1 := q.2; omega)), if_neg (show ¬ p < st - w + (sB, w).2 from h2)]
        rfl
    · rw [if_neg h, if_pos (by omega)]
      rfl
  | (s, c) :: r, st, w, p, hpos, hnb, ho, hw, hp => by
    have hc : 1 ≤ c := hpos (s, c) List.mem_cons_self
    have hpr : ∀ x ∈ r, 1 ≤ x.2 := fun x hx => hpos x (List.mem_cons_of_mem _ hx)
    unfold ptM
    by_cases hB : s = sB
    · have w0 : w = 0 := by
        rcases Nat.eq_zero_or_pos w with z | z
        · exact z
        · exact absurd hB (ho z (s, c) rfl)
      subst hB w0
      rw [if_pos rfl, prs_run_B, Nat.zero_add]
      have ih := gfd_gwU r (st + c) c (p := p) hpr hnb.2 (fun _ x hx e => hnb.1 x hx ⟨e.symm, rfl⟩) (by omega) (by omega)
      have : st + c - c = st - 0 := by omega
      rw [this] at ih
      exact ih
    · rw [if_neg hB]
      have ho0 : HdOk 0 r := fun z => absurd z (Nat.lt_irrefl 0)
      by_cases hQ : s = sQ
      · subst hQ
        rw [if_pos rfl, prs_run_Q w hc, grM_app, grM_app, List.append_assoc]
        have ih : st + c ≤ p → gfd (grM (ptM (st + c) 0 r)) p = gwU (st + c) (prs 0 (ch0 (exR r))) p := fun q => gfd_gwU r (st + c) 0 (p := p) hpr hnb.2 ho0 (Nat.zero_le _) (by omega)
        by_cases h : 0 < w
        · rw [if_pos h, if_pos h]
          show gfd ((st - w, w + 1, true, 1) :: (grM (if 1 < c then [(st + 1, none, 1, true, c - 1)] else []) ++ grM (ptM (st + c) 0 r))) p = _
          unfold gwU
          by_cases h2 : p < st + 1
          · rw [gfd_hit _ _ ⟨hp, (show p < st - w + (w + 1) * 1 by omega)⟩, if_pos (show p < st - w + (sQ, w + 1).2 by show p < st - w + (w + 1); omega), if_pos (show isG (sQ, w + 1) from .inr rfl)]
            rfl
          · rw [gfd_miss _ _ (fun q => h2 (by have : p < st - w + (w + 1) * 1 := q.2; omega)), if_neg (show ¬ p < st - w + (sQ, w + 1).2 by show ¬ p < st - w + (w + 1); omega)]
            have e1 : st - w + (sQ, w + 1).2 = st + 1 := by show st - w + (w + 1) = st + 1; omega
            rw [e1]
            by_cases h3 : 1 < c
            · rw [if_pos h3]
              show gfd ((st + 1, 1, true, c - 1) :: grM (ptM (st + c) 0 r)) p = _
              by_cases h4 : p < st + c
              · rw [gfd_hit _ _ ⟨(show st + 1 ≤ p by omega), (show p < st + 1 + 1 * (c - 1) by omega)⟩, gwU_repQ (s := sQ) (.inr rfl) _ (c - 1) (st + 1) (by omega) (by omega)]
                by_cases h5 : 1 < c - 1
                · exact congrArg some (if_pos h5)
                · have : p = st + 1 := by omega
                  rw [this]
                  exact congrArg some (if_neg h5)
              · rw [gfd_miss _ _ (fun q => h4 (by have : p < st + 1 + 1 * (c - 1) := q.2; omega)), gwU_skip _ _ _ (by rw [tot_rep]; omega), tot_rep, ih (by omega)]
                congr 1
                omega
            · rw [if_neg h3]
              have c1 : c = 1 := by omega
              subst c1
              show gfd (grM (ptM (st + 1) 0 r)) p = gwU (st + 1) (prs 0 (ch0 (exR r))) p
              exact ih (by omega)
        · have w0 : w = 0 := by omega
          subst w0
          rw [if_neg h, if_neg h]
          show gfd (grM (if 0 < c then [(st + 0, none, 1, true, c - 0)] else []) ++ grM (ptM (st + c) 0 r)) p = gwU (st - 0) ((sQ, 0 + 1) :: (List.replicate (c - 1) (sQ, 1) ++ prs 0 (ch0 (exR r)))) p
          have e0 : (sQ, 0 + 1) :: (List.replicate (c - 1) (sQ, 1) ++ prs 0 (ch0 (exR r))) = List.replicate c (sQ, 1) ++ prs 0 (ch0 (exR r)) := by
            obtain ⟨d, rfl⟩ : ∃ d, c = d + 1 := ⟨c - 1, by omega⟩
            rfl
          rw [if_pos (show 0 < c from hc), e0]
          show gfd ((st + 0, 1, true, c - 0) :: grM (ptM (st + c) 0 r)) p = gwU st (List.replicate c (sQ, 1) ++ prs 0 (ch0 (exR r))) p
          rw [Nat.sub_zero] at hp
          by_cases h4 : p < st + c
          · rw [gfd_hit _ _ ⟨hp, (show p < st + 0 + 1 * (c - 0) by omega)⟩, gwU_repQ (s := sQ) (.inr rfl) _ c st hp h4]
            by_cases h5 : 1 < c
            · exact congrArg some (if_pos h5)
            · have : p = st := by omega
              rw [this]
              exact congrArg some (if_neg h5)
          · rw [gfd_miss _ _ (fun q => h4 (by have : p < st + 0 + 1 * (c - 0) := q.2; omega)), gwU_skip _ _ _ (by rw [tot_rep]; omega), tot_rep, ih (by omega)]
      · rw [if_neg hQ, prs_run_P w hB hQ hc, grM_app, grM_app]
        have ih : st + c ≤ p → gfd (grM (ptM (st + c) 0 r)) p = gwU (st + c) (prs 0 (ch0 (exR r))) p := fun q => gfd_gwU r (st + c) 0 (p := p) hpr hnb.2 ho0 (Nat.zero_le _) (by omega)
        have ng : ¬ isG (s, 1) := fun z => z.elim hB hQ
        have mid : ∀ q, st ≤ q → gfd (grM (ptM (st + c) 0 r)) q = gwU st (List.replicate c (s, 1) ++ prs 0 (ch0 (exR r))) q ∨ True := fun _ _ => .inr trivial
        have fin : st ≤ p → gfd (grM (ptM (st + c) 0 r)) p = gwU st (List.replicate c (s, 1) ++ prs 0 (ch0 (exR r))) p := fun q => by
          by_cases h4 : p < st + c
          · rw [gwU_repP ng _ _ _ q h4, gfd_below (r := r) (st := st + c) (w := 0) (p := p) (Nat.zero_le _) (by omega)]
          · rw [gwU_skip _ _ _ (by rw [tot_rep]; omega), tot_rep, ih (by omega)]
        by_cases h : 0 < w
        · rw [if_pos h]
          show gfd ((st - w, w, false, 1) :: ([] ++ grM (ptM (st + c) 0 r))) p = gwU (st - w) (fl w ++ _) p
          by_cases h2 : p < st
          · rw [gfd_hit _ _ ⟨hp, (show p < st - w + w * 1 by omega)⟩]
            unfold fl
            rw [if_neg (show ¬ w = 0 by omega)]
            show _ = gwU (st - w) ((sB, w) :: _) p
            unfold gwU
            rw [if_pos (show p < st - w + (sB, w).2 by show p < st - w + w; omega), if_pos (show isG (sB, w) from .inl rfl)]
            rfl
          · rw [gfd_miss _ _ (fun q => h2 (by have : p < st - w + w * 1 := q.2; omega)), List.nil_append, gwU_skip _ _ _ (by rw [tot_fl]; omega), tot_fl, fin (by omega)]
            congr 1
            omega
        · have w0 : w = 0 := by omega
          subst w0
          rw [if_neg h]
          show gfd ([] ++ grM (ptM (st + c) 0 r)) p = gwU (st - 0) (fl 0 ++ _) p
          rw [List.nil_append, Nat.sub_zero]
          show _ = gwU st ([] ++ _) p
          rw [List.nil_append]
          rw [Nat.sub_zero] at hp
          exact fin hp
theorem lpU_skip (l : Nat) : ∀ (A B : List Un) (off : Nat), (∀ u ∈ A, ¬ (isG u ∧ ¬ 2 ^ l ∣ u.2)) → lpU l off (A ++ B) = lpU l (off + tot A) B
  | [], B, off, _ => rfl
  | u :: A, B, off, h => by
    show lpU l off (u :: (A ++ B)) = lpU l (off + (u.2 + tot A)) B
    conv => lhs; unfold lpU
    rw [if_neg (h u List.mem_cons_self)]
    show lpU l (off + u.2) (A ++ B) = _
    rw [lpU_skip l A B (off + u.2) fun v hv => h v (List.mem_cons_of_mem _ hv), Nat.add_assoc]
theorem gls_hit (l n : Nat) (g : GrD) (r : List GrD) (h : ¬ 2 ^ l ∣ g.2.1) : gls l n (g :: r) = g.1 + g.2.1 / 2 ^ l * 2 ^ l := if_pos fun z => h (Nat.dvd_of_mod_eq_zero z)
theorem gls_miss (l n : Nat) (g : GrD) (r : List GrD) (h : 2 ^ l ∣ g.2.1) : gls l n (g :: r) = gls l n r := if_neg fun z => z (Nat.mod_eq_zero_of_dvd h)
theorem gls_lpU (l : Nat) : ∀ (r : Rn) (st w n : Nat), (∀ x ∈ r, 1 ≤ x.2) → Nb (fun a b => ¬ (a.1 = b.1 ∧ yes b.1 = true)) r → HdOk w r → w ≤ st → n = st - w + tot (prs w (ch0 (exR r))) → gls l n (grM (ptM st w r)) = lpU l (st - w) (prs w (ch0 (exR r)))
  | [], st, w, n, _, _, _, hw, hn => by
    have hn' : n = st - w + tot (fl w) := hn
    rw [tot_fl] at hn'
    show gls l n (grM (if 0 < w then [(st - w, none, w, false, 1)] else [])) = lpU l (st - w) (fl w)
    unfold fl
    by_cases h : 0 < w
    · rw [if_pos h, if_neg (by omega)]
      show gls l n [(st - w, w, false, 1)] = lpU l (st - w) [(sB, w)]
      unfold lpU
      by_cases hd : 2 ^ l ∣ w
      · rw [gls_miss _ _ _ _ hd, if_neg (fun q => q.2 hd)]
        exact hn'
      · rw [gls_hit _ _ _ _ hd, if_pos ⟨.inl rfl, hd⟩]
    · rw [if_neg h, if_pos (by omega)]
      show n = st - w
      omega
  | (s, c) :: r, st, w, n, hpos, hnb, ho, hw, hn => by
    have hc : 1 ≤ c := hpos (s, c) List.mem_cons_self
    have hpr : ∀ x ∈ r, 1 ≤ x.2 := fun x hx => hpos x (List.mem_cons_of_mem _ hx)
    have h1 : 2 ^ l ∣ 1 ↔ l = 0 := by
      constructor
      · intro h
        have : 2 ^ l ≤ 1 := Nat.le_of_dvd Nat.one_pos h
        rcases Nat.eq_zero_or_pos l with e | e
        · exact e
        · have := Nat.pow_le_pow_right (show 0 < 2 by omega) e
          omega
      · intro h; rw [h]; exact ⟨1, rfl⟩
    unfold ptM
    by_cases hB : s = sB
    · have w0 : w = 0 := by
        rcases Nat.eq_zero_or_pos w with z | z
        · exact z
        · exact absurd hB (ho z (s, c) rfl)
      subst hB w0
      rw [prs_run_B, Nat.zero_add] at hn
      rw [if_pos rfl, prs_run_B, Nat.zero_add]
      have e : st + c - c = st - 0 := by omega
      have ih := gls_lpU l r (st + c) c n hpr hnb.2 (fun _ x hx e => hnb.1 x hx ⟨e.symm, rfl⟩) (by omega) (by rw [e]; exact hn)
      rw [e] at ih
      exact ih
    · rw [if_neg hB]
      have ho0 : HdOk 0 r := fun z => absurd z (Nat.lt_irrefl 0)
      by_cases hQ : s = sQ
      · subst hQ
        rw [prs_run_Q w hc] at hn
        have hn' : n = st - w + (w + 1 + tot (List.replicate (c - 1) (sQ, 1) ++ prs 0 (ch0 (exR r)))) := hn
        rw [tot_app, tot_rep] at hn'
        have ih : gls l n (grM (ptM (st + c) 0 r)) = lpU l (st + c) (prs 0 (ch0 (exR r))) := gls_lpU l r (st + c) 0 n hpr hnb.2 ho0 (Nat.zero_le _) (by omega)
        -- single quotes, d of them from off on
        have ones : ∀ d off, gls l n ((off, 1, true, d) :: grM (ptM (st + c) 0 r)) = lpU l off (List.replicate d (sQ, 1) ++ prs 0 (ch0 (exR r))) ∨ d = 0 ∨ off + d ≠ st + c := fun d off => by
          rcases Nat.eq_zero_or_pos d with e | e
          · exact .inr (.inl e)
          · by_cases e2 : off + d = st + c
            · refine .inl ?_
              obtain ⟨d', rfl⟩ : ∃ d', d = d' + 1 := ⟨d - 1, by omega⟩
              by_cases hd : 2 ^ l ∣ 1
              · rw [gls_miss _ _ _ _ hd, ih, lpU_skip _ _ _ _ fun u hu q => q.2 (by rw [List.eq_of_mem_replicate hu]; exact hd), tot_rep, e2]
              · rw [gls_hit _ _ _ _ hd, List.replicate_succ, List.cons_append]
                unfold lpU
                rw [if_pos (show isG (sQ, 1) ∧ ¬ 2 ^ l ∣ (sQ, 1).2 from ⟨.inr rfl, hd⟩)]
            · exact .inr (.inr e2)
        rw [if_pos rfl, prs_run_Q w hc, grM_app, grM_app, List.append_assoc]
        by_cases h : 0 < w
        · rw [if_pos h, if_pos h]
          show gls l n ((st - w, w + 1, true, 1) :: (grM (if 1 < c then [(st + 1, none, 1, true, c - 1)] else []) ++ grM (ptM (st + c) 0 r))) = _
          unfold lpU
          by_cases hd : 2 ^ l ∣ w + 1
          · rw [gls_miss _ _ _ _ hd, if_neg (show ¬ (isG (sQ, w + 1) ∧ ¬ 2 ^ l ∣ (sQ, w + 1).2) from fun q => q.2 hd)]
            have e1 : st - w + (sQ, w + 1).2 = st + 1 := by show st - w + (w + 1) = st + 1; omega
            rw [e1]
            by_cases h3 : 1 < c
            · rw [if_pos h3]
              rcases ones (c - 1) (st + 1) with z | z | z
              · exact z
              · omega
              · omega
            · rw [if_neg h3]
              have c1 : c = 1 := by omega
              subst c1
              exact ih
          · rw [gls_hit _ _ _ _ hd, if_pos (show isG (sQ, w + 1) ∧ ¬ 2 ^ l ∣ (sQ, w + 1).2 from ⟨.inr rfl, hd⟩)]
        · have w0 : w = 0 := by omega
          subst w0
          rw [if_neg h, if_neg h]
          have e0 : (sQ, 0 + 1) :: (List.replicate (c - 1) (sQ, 1) ++ prs 0 (ch0 (exR r))) = List.replicate c (sQ, 1) ++ prs 0 (ch0 (exR r)) := by
            obtain ⟨d, rfl⟩ : ∃ d, c = d + 1 := ⟨c - 1, by omega⟩
            rfl
          rw [if_pos (show 0 < c from hc), e0]
          show gls l n ((st + 0, 1, true, c - 0) :: grM (ptM (st + c) 0 r)) = lpU l st (List.replicate c (sQ, 1) ++ prs 0 (ch0 (exR r)))
          rcases ones c st with z | z | z
          · exact z
          · omega
          · omega
      · rw [prs_run_P w hB hQ hc, tot_app, tot_app, tot_fl, tot_rep] at hn
        have ih : gls l n (grM (ptM (st + c) 0 r)) = lpU l (st + c) (prs 0 (ch0 (exR r))) := gls_lpU l r (st + c) 0 n hpr hnb.2 ho0 (Nat.zero_le _) (by omega)
        have ng : ¬ isG (s, 1) := fun z => z.elim hB hQ
        have plain : lpU l st (List.replicate c (s, 1) ++ prs 0 (ch0 (exR r))) = lpU l (st + c) (prs 0 (ch0 (exR r))) := by
          rw [lpU_skip _ _ _ _ fun u hu q => ng (by rw [← List.eq_of_mem_replicate hu]; exact q.1), tot_rep]
        rw [if_neg hQ, prs_run_P w hB hQ hc, grM_app, grM_app]
        by_cases h : 0 < w
        · rw [if_pos h]
          show gls l n ((st - w, w, false, 1) :: ([] ++ grM (ptM (st + c) 0 r))) = lpU l (st - w) (fl w ++ _)
          unfold fl
          rw [if_neg (by omega)]
          show _ = lpU l (st - w) ((sB, w) :: (List.replicate c (s, 1) ++ prs 0 (ch0 (exR r))))
          unfold lpU
          by_cases hd : 2 ^ l ∣ w
          · rw [gls_miss _ _ _ _ hd, if_neg (show ¬ (isG (sB, w) ∧ ¬ 2 ^ l ∣ (sB, w).2) from fun q => q.2 hd), List.nil_append, ih]
            have e1 : st - w + (sB, w).2 = st := by show st - w + w = st; omega
            rw [e1, plain]
          · rw [gls_hit _ _ _ _ hd, if_pos (show isG (sB, w) ∧ ¬ 2 ^ l ∣ (sB, w).2 from ⟨.inl rfl, hd⟩)]
        · have w0 : w = 0 := by omega
          subst w0
          rw [if_neg h]
          show gls l n ([] ++ grM (ptM (st + c) 0 r)) = lpU l (st - 0) ([] ++ _)
          rw [List.nil_append, List.nil_append, Nat.sub_zero, ih, plain]
/-- the text of units, as runs -/
def rnT (U : List Un) : Rn := rn yes (tx U)
def grT (U : List Un) : List GrD := grM (ptM 0 0 (rnT U))
theorem grT_gw {U : List Un} (hW : WU U) (p : Nat) : gfd (grT U) p = gwU 0 U p := by
  have w := rn_wr (mg := yes) (tx U)
  have := gfd_gwU (rnT U) 0 0 (p := p) w.pos w.nb (fun z => absurd z (Nat.lt_irrefl 0)) (Nat.le_refl _) (Nat.zero_le _)
  have e : exR (rnT U) = tx U := exR_rn _
  rw [e, prs_tx hW] at this
  exact this
theorem grT_lp {U : List Un} (hW : WU U) (l : Nat) : gls l (tot U) (grT U) = lpU l 0 U := by
  have w := rn_wr (mg := yes) (tx U)
  have e : exR (rnT U) = tx U := exR_rn _
  have := gls_lpU l (rnT U) 0 0 (tot U) w.pos w.nb (fun z => absurd z (Nat.lt_irrefl 0)) (Nat.le_refl _) (by rw [e, prs_tx hW]; omega)
  rw [e, prs_tx hW] at this
  exact this
end Sl

end
section
set_option linter.all false
set_option autoImplicit false
namespace Sl
/-! ### parts of a group, one behind another -/
def pcf (ps : List (Nat × Nat)) : List Ch := ps.flatMap fun x => List.replicate x.2 (sB, x.1)
theorem pcf_app (a b : List (Nat × Nat)) : pcf (a ++ b) = pcf a ++ pcf b := List.flatMap_append
theorem pch_snoc (q : Nat) (x : Nat × Nat) : ∀ L, pch q (L ++ [x]) = pcf L ++ (List.replicate (x.2 - q) (sB, x.1) ++ List.replicate q (sQ, x.1))
  | [] => rfl
  | [y] => by
    show List.replicate y.2 (sB, y.1) ++ pch q [x] = (List.replicate y.2 (sB, y.1) ++ []) ++ _
    rw [List.append_nil]; rfl
  | y :: z :: r => by
    show List.replicate y.2 (sB, y.1) ++ pch q (z :: r ++ [x]) = (List.replicate y.2 (sB, y.1) ++ pcf (z :: r)) ++ _
    rw [pch_snoc q x (z :: r), List.append_assoc]
theorem mem_pcf {ps : List (Nat × Nat)} {c : Ch} (h : c ∈ pcf ps) : c.1 = sB := by
  obtain ⟨x, _, e⟩ := List.mem_flatMap.mp h
  rw [List.eq_of_mem_replicate e]
theorem mem_pch {q : Nat} {ps : List (Nat × Nat)} {c : Ch} (h : c ∈ pch q ps) : c.1 = sB ∨ c.1 = sQ := by
  rcases nil_or_snoc ps with e | ⟨L, x, e⟩
  · rw [e] at h; cases h
  · rw [e, pch_snoc] at h
    rcases List.mem_append.mp h with z | z
    · exact .inl (mem_pcf z)
    · rcases List.mem_append.mp z with z | z
      · rw [List.eq_of_mem_replicate z]; exact .inl rfl
      · rw [List.eq_of_mem_replicate z]; exact .inr rfl
/-- after so many turns -/
def pcI (q : Nat) (ps : List (Nat × Nat)) (i : Nat) : List Ch := if i < ps.length then pcf (ps.take i) else pch q ps
theorem pcI_0 (q : Nat) (ps : List (Nat × Nat)) : pcI q ps 0 = [] := by
  unfold pcI
  cases ps with
  | nil => rfl
  | cons x r => rw [if_pos (by simp)]; rfl
theorem pcI_n (q : Nat) (ps : List (Nat × Nat)) : pcI q ps ps.length = pch q ps := if_neg (Nat.lt_irrefl _)
theorem pcI_s (q : Nat) {ps : List (Nat × Nat)} {i : Nat} {x : Nat × Nat} (h : ps[i]? = some x) {k : Nat} (hk : k = if i + 1 = ps.length then q else 0) : pcI q ps (i + 1) = pcI q ps i ++ List.replicate (x.2 - k) (sB, x.1) ++ List.replicate k (sQ, x.1) := by
  obtain ⟨hi, hx⟩ := List.getElem?_eq_some_iff.mp h
  have t : ps.take (i + 1) = ps.take i ++ [x] := by rw [List.take_add_one, h]; rfl
  unfold pcI
  rw [if_pos hi]
  by_cases e : i + 1 = ps.length
  · rw [if_neg (by omega)]
    rw [if_pos e] at hk
    have : ps = ps.take i ++ [x] := by
      have h1 := t
      rw [e, List.take_length] at h1
      exact h1
    conv => lhs; rw [this]
    rw [pch_snoc, hk, List.append_assoc]
  · rw [if_pos (by omega), hk, if_neg e, t, pcf_app]
    show pcf (ps.take i) ++ (List.replicate x.2 (sB, x.1) ++ []) = _
    rw [Nat.sub_zero]
    simp
/-! ### the greatest history, piece by piece -/
theorem gru_P {s : Sy} {b : Nat} (h : ¬ isG (s, 1)) (U : List Un) : ∀ m, gru b (List.replicate m (s, 1) ++ U) = List.replicate m (s, b) ++ gru b U
  | 0 => rfl
  | m + 1 => by
    rw [List.replicate_succ, List.cons_append, List.replicate_succ, List.cons_append]
    show gch b (s, 1) ++ gru (gb b (s, 1)) (List.replicate m (s, 1) ++ U) = _
    unfold gch gb
    rw [if_neg h, if_neg h, gru_P h U m]
    rfl
theorem gru_G {s : Sy} {z b : Nat} (h : isG (s, z)) (U : List Un) : gru b ((s, z) :: U) = pch (qn s) (gp z b) ++ gru (gpl z b) U := by
  show gch b (s, z) ++ gru (gb b (s, z)) U = _
  unfold gch gb
  rw [if_pos h, if_pos h]
theorem gp_one : ∀ b, gp 1 b = [(0, 1)]
  | 0 => rfl
  | b + 1 => by
    unfold gp
    have : 1 < 2 ^ (b + 1) := Nat.one_lt_two_pow (by omega)
    rw [if_pos (Nat.div_eq_of_lt this), Nat.mod_eq_of_lt this, gp_one b]
    rfl
theorem pch_one {s : Sy} (h : isG (s, 1)) : pch (qn s) [(0, 1)] = [(s, 0)] := by
  unfold qn
  by_cases hQ : s = sQ
  · rw [if_pos hQ, hQ]; rfl
  · have hB : s = sB := h.elim id fun q => absurd q hQ
    rw [if_neg hQ, hB]; rfl
theorem gru_11 {s : Sy} (h : isG (s, 1)) (b : Nat) (U : List Un) : gru b ((s, 1) :: U) = (s, 0) :: gru 0 U := by
  rw [gru_G h]
  unfold gpl
  rw [gp_one, pch_one h]
  rfl
theorem gru_1 {s : Sy} (h : isG (s, 1)) (U : List Un) : ∀ (m b : Nat), gru b (List.replicate (m + 1) (s, 1) ++ U) = List.replicate (m + 1) (s, 0) ++ gru 0 U
  | 0, b => by
    show gru b ((s, 1) :: U) = _
    rw [gru_11 h]; rfl
  | m + 1, b => by
    rw [List.replicate_succ, List.cons_append, gru_11 h, gru_1 h U m 0, List.replicate_succ (n := m + 1)]
    rfl
theorem gru_mem : ∀ {U : List Un} {b : Nat} {c : Ch}, c ∈ gru b U → c.1 = sB ∨ c.1 = sQ ∨ ∃ u ∈ U, u.1 = c.1
  | [], _, c, h => by cases h
  | u :: U, b, c, h => by
    rcases List.mem_append.mp (show c ∈ gch b u ++ gru (gb b u) U from h) with h | h
    · unfold gch at h
      by_cases hg : isG u
      · rw [if_pos hg] at h
        exact (mem_pch h).elim .inl fun z => .inr (.inl z)
      · rw [if_neg hg] at h
        rw [List.mem_singleton.mp h]
        exact .inr (.inr ⟨u, List.mem_cons_self, rfl⟩)
    · rcases gru_mem h with z | z | ⟨v, hv, e⟩
      · exact .inl z
      · exact .inr (.inl z)
      · exact .inr (.inr ⟨v, List.mem_cons_of_mem _ hv, e⟩)
theorem bwu_mem : ∀ {U : List Un} {ls : List Nat} {c : Ch}, c ∈ bwu U ls → c.1 = sB ∨ c.1 = sQ ∨ ∃ u ∈ U, u.1 = c.1
  | [], _, c, h => by cases h
  | u :: U, ls, c, h => by
    rcases List.mem_append.mp (show c ∈ uch u (ls.take u.2) ++ bwu U (ls.drop u.2) from h) with h | h
    · unfold uch at h
      by_cases hg : isG u
      · rw [if_pos hg] at h
        exact (mem_pch h).elim .inl fun z => .inr (.inl z)
      · rw [if_neg hg] at h
        obtain ⟨l, _, rfl⟩ := List.mem_map.mp h
        exact .inr (.inr ⟨u, List.mem_cons_self, rfl⟩)
    · rcases bwu_mem h with z | z | ⟨v, hv, e⟩
      · exact .inl z
      · exact .inr (.inl z)
      · exact .inr (.inr ⟨v, List.mem_cons_of_mem _ hv, e⟩)
theorem gp_le : ∀ (b z : Nat), (gp z b).length ≤ b + 1
  | 0, z => by unfold gp; split <;> simp
  | b + 1, z => by
    unfold gp
    rw [List.length_append]
    have := gp_le b (z % 2 ^ (b + 1))
    split <;> simp <;> omega
theorem gp_step (z b : Nat) : gp z (b + 1) = (if z / 2 ^ (b + 1) = 0 then [] else [(b + 1, z / 2 ^ (b + 1))]) ++ gp (z % 2 ^ (b + 1)) b := by
  conv => lhs; unfold gp
theorem gpl_ne {z b : Nat} (hz : 1 ≤ z) : ∃ L y, gp z b = L ++ [y] ∧ gpl z b = y.1 := by
  rcases nil_or_snoc (gp z b) with e | ⟨L, y, e⟩
  · have := gp_nil e
    omega
  · exact ⟨L, y, e, by unfold gpl; rw [e, List.getLast?_concat]; rfl⟩
end Sl

end
section
set_option linter.all false
set_option autoImplicit false
namespace Sl
/-! ### how many runs and blocks there are -/
def esc (c : Ch) : List Sy := if c.1 = sB then List.replicate (2 ^ c.2) sB else if c.1 = sQ then List.replicate (2 ^ c.2 - 1) sB ++ [sQ] else [c.1]
theorem tx_prs : ∀ (cs : List Ch) (w : Nat), tx (prs w cs) = List.replicate w sB ++ cs.flatMap esc
  | [], w => by
    show tx (fl w) = _
    unfold fl
    by_cases h : w = 0
    · rw [if_pos h, h]; rfl
    · rw [if_neg h]
      show tch (sB, w) ++ [] = List.replicate w sB ++ []
      unfold tch
      rw [if_neg (show ¬ (sB, w).1 = sQ from sBQ)]
  | (s, l) :: cs, w => by
    rw [List.flatMap_cons]
    by_cases hB : s = sB
    · subst hB
      rw [prs_B, tx_prs cs]
      unfold esc
      rw [if_pos (show (sB, l).1 = sB from rfl), ← List.append_assoc, List.replicate_append_replicate]
    · by_cases hQ : s = sQ
      · subst hQ
        have hp := Nat.two_pow_pos l
        rw [prs_Q, tx_cons, tx_prs cs]
        rw [show esc (sQ, l) = List.replicate (2 ^ l - 1) sB ++ [sQ] from (if_neg (show ¬ (sQ, l).1 = sB from hB)).trans (if_pos rfl)]
        unfold tch
        rw [if_pos (show (sQ, w + 2 ^ l).1 = sQ from rfl)]
        have : w + 2 ^ l - 1 = w + (2 ^ l - 1) := by omega
        show List.replicate (w + 2 ^ l - 1) sB ++ [sQ] ++ (List.replicate 0 sB ++ _) = _
        rw [this, ← List.replicate_append_replicate]
        generalize cs.flatMap esc = Z
        simp only [List.append_assoc, List.replicate_zero, List.nil_append, List.cons_append]
      · rw [prs_P _ _ hB hQ]
        unfold esc
        rw [if_neg (show ¬ (s, l).1 = sB from hB), if_neg (show ¬ (s, l).1 = sQ from hQ)]
        have e : tx (fl w ++ (s, 1) :: prs 0 cs) = tx (fl w) ++ (tch (s, 1) ++ tx (prs 0 cs)) := List.flatMap_append
        rw [e, tx_prs cs]
        have e2 : tx (fl w) = List.replicate w sB := by
          have := tx_prs [] w
          rw [show ([] : List Ch).flatMap esc = [] from rfl, List.append_nil] at this
          exact this
        rw [e2]
        unfold tch
        rw [if_neg (show ¬ (s, 1).1 = sQ from hQ)]
        rfl
section
variable {κ : Type} [DecidableEq κ]
theorem rnl_mono (xs ys : List κ) : (rn yes xs).length ≤ (rn yes (xs ++ ys)).length := by
  induction ys using snoc_ind with
  | h0 => rw [List.append_nil]; exact Nat.le_refl _
  | h1 l a ih =>
    rw [← List.append_assoc, rn_snoc]
    exact Nat.le_trans ih (addR_len _ _ _).2
theorem rnl_rep (xs : List κ) (k : κ) (c : Nat) : (rn yes (xs ++ List.replicate c k)).length ≤ (rn yes xs).length + 1 := by
  rw [rn_rep _ _ rfl]
  exact (addR_len _ _ _).1
theorem rn_last (xs : List κ) (a : κ) : ∃ L d, rn yes (xs ++ [a]) = L ++ [(a, d)] := by
  rw [rn_snoc]
  rcases nil_or_snoc (rn yes xs) with e | ⟨L, ⟨j, d⟩, e⟩
  · rw [e, addR_nil _ (by decide)]
    exact ⟨[], 1, rfl⟩
  · rw [e]
    by_cases h : j = a
    · subst h
      rw [addR_same L rfl]
      exact ⟨L, _, rfl⟩
    · rw [addR_other L (by decide) fun q => h q.1]
      exact ⟨L ++ [(j, d)], 1, rfl⟩
theorem rnl_ne (xs : List κ) {a b : κ} (h : a ≠ b) : (rn yes (xs ++ [a] ++ [b])).length = (rn yes (xs ++ [a])).length + 1 := by
  obtain ⟨L, d, e⟩ := rn_last xs a
  rw [rn_snoc, e, addR_other L (by decide) fun q => h q.1, List.length_append]
  rfl
theorem rnl_eq (xs : List κ) (a : κ) : (rn yes (xs ++ [a] ++ [a])).length = (rn yes (xs ++ [a])).length := by
  obtain ⟨L, d, e⟩ := rn_last xs a
  rw [rn_snoc, e, addR_same L rfl, List.length_append, List.length_append]
  rfl
theorem rnl_one (xs : List κ) (a : κ) : (rn yes (xs ++ [a])).length ≤ (rn yes xs).length + 1 := by
  rw [rn_snoc]
  exact (addR_len _ _ _).1
theorem rnl_pos (xs : List κ) (a : κ) : 1 ≤ (rn yes (xs ++ [a])).length := by
  obtain ⟨L, d, e⟩ := rn_last xs a
  rw [e, List.length_append]
  exact Nat.le_add_left _ _
end
theorem esc_last (c : Ch) : ∃ A, esc c = A ++ [c.1] := by
  unfold esc
  by_cases hB : c.1 = sB
  · rw [if_pos hB]
    have hp := Nat.two_pow_pos c.2
    refine ⟨List.replicate (2 ^ c.2 - 1) sB, ?_⟩
    have : 2 ^ c.2 = (2 ^ c.2 - 1) + 1 := by omega
    conv => lhs; rw [this, List.replicate_succ']
    rw [hB]
  · rw [if_neg hB]
    by_cases hQ : c.1 = sQ
    · rw [if_pos hQ, hQ]; exact ⟨_, rfl⟩
    · rw [if_neg hQ]; exact ⟨[], rfl⟩
/-- another symbol behind a symbol begins a run, here or within its escape -/
theorem rnl_esc (X : List Sy) {a : Sy} {c : Ch} (h : a ≠ c.1) : (rn yes (X ++ [a])).length + 1 ≤ (rn yes (X ++ [a] ++ esc c)).length := by
  have st : ∀ (b : Sy) (R : List Sy), a ≠ b → (rn yes (X ++ [a])).length + 1 ≤ (rn yes (X ++ [a] ++ (b :: R))).length := fun b R hb => by
    have e : X ++ [a] ++ (b :: R) = X ++ [a] ++ [b] ++ R := by simp
    rw [e, ← rnl_ne X hb]
    exact rnl_mono _ _
  unfold esc
  by_cases hB : c.1 = sB
  · rw [if_pos hB]
    have hp := Nat.two_pow_pos c.2
    have : 2 ^ c.2 = (2 ^ c.2 - 1) + 1 := by omega
    rw [this, List.replicate_succ]
    exact st _ _ (hB ▸ h)
  · rw [if_neg hB]
    by_cases hQ : c.1 = sQ
    · rw [if_pos hQ]
      rcases Nat.eq_zero_or_pos (2 ^ c.2 - 1) with e | e
      · rw [e]
        exact st _ _ (hQ ▸ h)
      · obtain ⟨k, hk⟩ : ∃ k, 2 ^ c.2 - 1 = k + 1 := ⟨2 ^ c.2 - 1 - 1, by omega⟩
        rw [hk, List.replicate_succ', ← List.append_assoc, ← List.append_assoc, rnl_ne _ sBQ]
        have := rnl_mono (X ++ [a]) (List.replicate k sB ++ [sB])
        rw [← List.append_assoc] at this
        omega
    · rw [if_neg hQ]
      exact st _ _ h
theorem rnl_blk {E : Nat} (cs : List Ch) : ∀ (c : Ch), Dn ((cs ++ [c]).map Prod.snd) → (∀ d ∈ cs ++ [c], d.2 ≤ E) → (rn yes (cs ++ [c])).length + c.2 ≤ (rn yes ((cs ++ [c]).flatMap esc)).length + E := by
  induction cs using snoc_ind with
  | h0 =>
    intro c _ h
    have h1 := h c (by simp)
    have e : ([] ++ [c] : List Ch).flatMap esc = esc c := by simp
    rw [e]
    obtain ⟨A, hA⟩ := esc_last c
    have := rnl_pos A c.1
    rw [← hA] at this
    have := rnl_one ([] : List Ch) c
    have z : (rn yes ([] : List Ch)).length = 0 := rfl
    omega
  | h1 l d ih =>
    intro c hd h
    have hd' : Dn ((l ++ [d]).map Prod.snd) := by
      rw [List.map_append] at hd
      exact (List.pairwise_append.mp hd).1
    have i := ih d hd' fun x hx => h x (List.mem_append_left _ hx)
    have hdc : c.2 ≤ d.2 := by
      rw [List.map_append] at hd
      exact (List.pairwise_append.mp hd).2.2 d.2 (by simp) c.2 (by simp)
    have ef : (l ++ [d] ++ [c]).flatMap esc = (l ++ [d]).flatMap esc ++ esc c := by
      rw [List.flatMap_append]; simp
    have m := rnl_mono ((l ++ [d]).flatMap esc) (esc c)
    rw [ef]
    by_cases e : d = c
    · subst e
      rw [rnl_eq]; omega
    · rw [rnl_ne _ e]
      rcases Nat.lt_or_eq_of_le hdc with q | q
      · omega
      · have hs : d.1 ≠ c.1 := fun z => e (Prod.ext z q.symm)
        obtain ⟨A, hA⟩ := esc_last d
        have eX : (l ++ [d]).flatMap esc = (l.flatMap esc ++ A) ++ [d.1] := by
          rw [List.flatMap_append, List.append_assoc, ← hA]; simp
        have := rnl_esc (l.flatMap esc ++ A) hs
        rw [← eX] at this
        omega
theorem Hc.blk {U : List Un} {E : Nat} {cs : List Ch} (h : Hc U E cs) : (rn yes cs).length ≤ (rnT U).length + E := by
  have e : tx U = cs.flatMap esc := by
    have := tx_prs cs 0
    rw [h.prs] at this
    rw [this]; rfl
  unfold rnT
  rw [e]
  rcases nil_or_snoc cs with q | ⟨L, c, q⟩
  · subst q
    exact Nat.zero_le _
  · subst q
    have := rnl_blk (E := E) L c (List.pairwise_map.mpr (chs_dn h.dn)) fun d hd => h.le _ (mem_lvs hd)
    omega
/-- text runs of a history's blocks -/
theorem rnT_blk (bs : List (Ch × Nat)) : (rn yes ((exR bs).flatMap esc)).length ≤ bs.length + 2 * (exR bs).countP (fun c => c.1 = sQ) := by
  induction bs using snoc_ind with
  | h0 => exact Nat.zero_le _
  | h1 l x ih =>
    rw [exR_app, exR_one, List.flatMap_append, List.countP_append, List.length_append]
    obtain ⟨⟨s, lv⟩, c⟩ := x
    generalize (exR l).flatMap esc = X at ih ⊢
    show (rn yes (X ++ (List.replicate c (s, lv)).flatMap esc)).length ≤ l.length + 1 + 2 * (_ + List.countP _ (List.replicate c (s, lv)))
    by_cases hQ : s = sQ
    · subst hQ
      have ec : (List.replicate c (sQ, lv)).countP (fun c => c.1 = sQ) = c := by
        rw [List.countP_replicate]; simp
      rw [ec]
      have : ∀ k, (rn yes (X ++ (List.replicate k (sQ, lv)).flatMap esc)).length ≤ (rn yes X).length + 2 * k := fun k => by
        induction k with
        | zero => simp
        | succ k ihk =>
          rw [List.replicate_succ', List.flatMap_append, ← List.append_assoc]
          have e1 : [(sQ, lv)].flatMap esc = List.replicate (2 ^ lv - 1) sB ++ [sQ] := by
            show esc (sQ, lv) ++ [] = _
            unfold esc
            rw [if_neg (show ¬ (sQ, lv).1 = sB from sQB), if_pos (show (sQ, lv).1 = sQ from rfl), List.append_nil]
          rw [e1, ← List.append_assoc]
          generalize X ++ (List.replicate k (sQ, lv)).flatMap esc = Y at ihk ⊢
          have h1 := rnl_one (Y ++ List.replicate (2 ^ lv - 1) sB) sQ
          have h2 := rnl_rep Y sB (2 ^ lv - 1)
          omega
      have := this c
      omega
    · have : ∃ z n, (List.replicate c (s, lv)).flatMap esc = List.replicate n z := by
        by_cases hB : s = sB
        · subst hB
          refine ⟨sB, c * 2 ^ lv, ?_⟩
          induction c with
          | zero => rw [Nat.zero_mul]; rfl
          | succ c ihc =>
            rw [List.replicate_succ, List.flatMap_cons, ihc]
            unfold esc
            rw [if_pos (show (sB, lv).1 = sB from rfl), List.replicate_append_replicate, Nat.succ_mul, Nat.add_comm]
        · refine ⟨s, c, ?_⟩
          induction c with
          | zero => rfl
          | succ c ihc =>
            rw [List.replicate_succ, List.flatMap_cons, ihc]
            unfold esc
            rw [if_neg (show ¬ (s, lv).1 = sB from hB), if_neg (show ¬ (s, lv).1 = sQ from hQ)]
            rfl
      obtain ⟨z, n, e⟩ := this
      rw [e]
      have := rnl_rep X z n
      omega
theorem prs_nq : ∀ (cs : List Ch) (w : Nat), (prs w cs).countP (fun u => u.1 = sQ) = cs.countP (fun c => c.1 = sQ)
  | [], w => by
    show (fl w).countP _ = _
    unfold fl
    split
    · rfl
    · exact List.countP_cons_of_neg (by simpa using sBQ)
  | (s, l) :: cs, w => by
    by_cases hB : s = sB
    · subst hB
      rw [prs_B, prs_nq cs, List.countP_cons_of_neg]
      simpa using sBQ
    · by_cases hQ : s = sQ
      · subst hQ
        rw [prs_Q, List.countP_cons_of_pos (by simp), List.countP_cons_of_pos (by simp), prs_nq cs]
      · rw [prs_P _ _ hB hQ, List.countP_append, List.countP_cons_of_neg (by simpa using hQ), List.countP_cons_of_neg (by simpa using hQ), prs_nq cs]
        have : (fl w).countP (fun u => decide (u.1 = sQ)) = 0 := by
          have := prs_nq [] w
          exact this
        rw [this, Nat.zero_add]
theorem pcs_many {U : List Un} {x : Pc} (h : x ∈ pcs U) (hQ : x.1.1 = sQ) : x.2 ≤ U.countP (fun u => u.1 = sQ) := by
  have e : exR (pcs U) = U := exR_rn U
  obtain ⟨a, b, h⟩ := List.append_of_mem h
  rw [h, exR_app, exR_cons] at e
  rw [← e, List.countP_append, List.countP_append, List.countP_replicate, if_pos (by simpa using hQ)]
  omega
theorem pcs_one {U : List Un} : ∀ x ∈ pcs U, x.1.1 = sB → x.2 = 1 := by
  unfold pcs
  induction U using snoc_ind with
  | h0 => intro x h; cases h
  | h1 l u ih =>
    intro x h hB
    rw [rn_snoc] at h
    rcases nil_or_snoc (rn mgP l) with e | ⟨L, ⟨j, d⟩, e⟩
    · rw [e, addR_nil _ (by decide)] at h
      rw [List.mem_singleton.mp h]
    · by_cases g : j = u ∧ mgP u = true
      · obtain ⟨rfl, g2⟩ := g
        rw [e, addR_same L g2] at h
        rcases List.mem_append.mp h with q | q
        · exact ih x (by rw [e]; exact List.mem_append_left _ q) hB
        · rw [List.mem_singleton.mp q] at hB
          exact absurd hB (of_decide_eq_true g2)
      · rw [e, addR_other L (by decide) g] at h
        rcases List.mem_append.mp h with q | q
        · exact ih x (by rw [e]; exact q) hB
        · rw [List.mem_singleton.mp q]
theorem pcs_pos {U : List Un} {x : Pc} (h : x ∈ pcs U) : 1 ≤ x.2 := (rn_wr U).pos x h
/-- neighbours of a history's blocks -/
theorem blk_dn : ∀ {bs : List (Ch × Nat)}, (∀ x ∈ bs, 1 ≤ x.2) → Dn (lvs (exR bs)) → bs.Pairwise (fun a b => b.1.2 ≤ a.1.2)
  | [], _, _ => List.Pairwise.nil
  | x :: r, h, hd => by
    rw [exR_cons, lvs_app] at hd
    obtain ⟨_, h2, h3⟩ := List.pairwise_append.mp hd
    refine List.Pairwise.cons (fun y hy => ?_) (blk_dn (fun y hy => h y (List.mem_cons_of_mem _ hy)) h2)
    have e : ∀ z : Ch × Nat, 1 ≤ z.2 → z.1 ∈ List.replicate z.2 z.1 := fun z hz => by rw [List.mem_replicate]; exact ⟨by omega, rfl⟩
    refine h3 x.1.2 (mem_lvs (e x (h x List.mem_cons_self))) y.1.2 (mem_lvs ?_)
    exact List.mem_flatMap.mpr ⟨y, hy, e y (h y (List.mem_cons_of_mem _ hy))⟩
theorem nb_and {α : Type} {R S : α → α → Prop} : ∀ {l : List α}, l.Pairwise R → Nb S l → Nb (fun a b => R a b ∧ S a b) l
  | [], _, _ => trivial
  | x :: r, hp, hn => by
    obtain ⟨h1, h2⟩ := List.pairwise_cons.mp hp
    obtain ⟨g1, g2⟩ := hn
    exact ⟨fun b hb => ⟨h1 b (List.mem_of_mem_head? hb), g1 b hb⟩, nb_and h2 g2⟩
end Sl

end
section
set_option linter.all false
set_option autoImplicit false
namespace Sl
/-! ### scripts -/
/-- an escape, or an append -/
abbrev Op := Nat ⊕ Rn
def opE : List Op → Nat
  | [] => 0
  | .inl k :: r => k + opE r
  | .inr _ :: r => opE r
def opB : Nat → List Op → List (Ch × Nat)
  | _, [] => []
  | L, .inl k :: r => opB (L - k) r
  | L, .inr rs :: r => rs.map (fun x => ((x.1, L), x.2)) ++ opB L r
theorem opB_le : ∀ (ops : List Op) (L : Nat), ∀ x ∈ opB L ops, x.1.2 ≤ L
  | [], _, x, h => by cases h
  | .inl k :: r, L, x, h => Nat.le_trans (opB_le r (L - k) x h) (Nat.sub_le _ _)
  | .inr rs :: r, L, x, h => by
    rcases List.mem_append.mp (show x ∈ rs.map _ ++ opB L r from h) with q | q
    · obtain ⟨y, _, rfl⟩ := List.mem_map.mp q
      exact Nat.le_refl _
    · exact opB_le r L x q
theorem opB_pw : ∀ (ops : List Op) (L : Nat), (opB L ops).Pairwise (fun a b => b.1.2 ≤ a.1.2)
  | [], _ => List.Pairwise.nil
  | .inl k :: r, L => opB_pw r (L - k)
  | .inr rs :: r, L => by
    refine List.pairwise_append.mpr ⟨?_, opB_pw r L, fun a ha b hb => ?_⟩
    · rw [List.pairwise_map]
      exact List.pairwise_of_forall fun _ _ => Nat.le_refl _
    · obtain ⟨y, _, rfl⟩ := List.mem_map.mp ha
      exact opB_le r L b hb
theorem mem_lvs_ex {bs : List (Ch × Nat)} {y : Nat} (h : y ∈ lvs (exR bs)) : ∃ x ∈ bs, x.1.2 = y := by
  induction bs with
  | nil => cases h
  | cons b r ih =>
    rw [exR_cons, lvs_app] at h
    rcases List.mem_append.mp h with q | q
    · have : lvs (List.replicate b.2 b.1) = List.replicate (b.2 * wd b.1.1 b.1.2) b.1.2 := lvs_rep b.1.1 b.1.2 b.2
      rw [this] at q
      exact ⟨b, List.mem_cons_self, (List.eq_of_mem_replicate q).symm⟩
    · obtain ⟨x, hx, e⟩ := ih q
      exact ⟨x, List.mem_cons_of_mem _ hx, e⟩
theorem lvs_dn : ∀ {bs : List (Ch × Nat)}, bs.Pairwise (fun a b => b.1.2 ≤ a.1.2) → Dn (lvs (exR bs))
  | [], _ => Dn.nil
  | b :: r, h => by
    obtain ⟨h1, h2⟩ := List.pairwise_cons.mp h
    rw [exR_cons, lvs_app]
    have e : lvs (List.replicate b.2 b.1) = List.replicate (b.2 * wd b.1.1 b.1.2) b.1.2 := lvs_rep b.1.1 b.1.2 b.2
    rw [e]
    refine List.pairwise_append.mpr ⟨Dn.rep _ _, lvs_dn h2, fun x hx y hy => ?_⟩
    rw [List.eq_of_mem_replicate hx]
    obtain ⟨z, hz, rfl⟩ := mem_lvs_ex hy
    exact h1 z hz
def opCs (ops : List Op) : List Ch := exR (opB (opE ops) ops)
theorem op_hc (ops : List Op) : Hc (prs 0 (opCs ops)) (opE ops) (opCs ops) :=
  ⟨rfl, lvs_dn (opB_pw _ _), fun x hx => by
    obtain ⟨z, hz, rfl⟩ := mem_lvs_ex hx
    exact opB_le _ _ z hz⟩
theorem rnl_ex (bs : List (Ch × Nat)) : (rn yes (exR bs)).length ≤ bs.length := by
  induction bs using snoc_ind with
  | h0 => exact Nat.le_refl _
  | h1 l x ih =>
    rw [exR_app, exR_one, List.length_append]
    exact Nat.le_trans (rnl_rep _ _ _) (Nat.succ_le_succ ih)
def opN : List Op → Nat
  | [] => 0
  | .inl _ :: r => opN r
  | .inr rs :: r => rs.length + opN r
theorem opB_len : ∀ (ops : List Op) (L : Nat), (opB L ops).length = opN ops
  | [], _ => rfl
  | .inl k :: r, L => opB_len r (L - k)
  | .inr rs :: r, L => by
    show (rs.map _ ++ opB L r).length = rs.length + opN r
    rw [List.length_append, List.length_map, opB_len r L]
theorem opB_mem : ∀ (ops : List Op) (L : Nat), ∀ x ∈ opB L ops, ∃ rs, (.inr rs : Op) ∈ ops ∧ (x.1.1, x.2) ∈ rs
  | [], _, x, h => by cases h
  | .inl k :: r, L, x, h => by
    obtain ⟨rs, h1, h2⟩ := opB_mem r (L - k) x h
    exact ⟨rs, List.mem_cons_of_mem _ h1, h2⟩
  | .inr rs :: r, L, x, h => by
    rcases List.mem_append.mp (show x ∈ rs.map _ ++ opB L r from h) with q | q
    · obtain ⟨y, hy, rfl⟩ := List.mem_map.mp q
      exact ⟨rs, List.mem_cons_self, hy⟩
    · obtain ⟨rs, h1, h2⟩ := opB_mem r L x q
      exact ⟨rs, List.mem_cons_of_mem _ h1, h2⟩
theorem opE_drop {ops : List Op} {i : Nat} {x : Op} (h : ops[i]? = some x) : ops.drop i = x :: ops.drop (i + 1) := by
  obtain ⟨hi, e⟩ := List.getElem?_eq_some_iff.mp h
  rw [List.drop_eq_getElem_cons hi, e]
/-- the sizes of what the law builds -/
theorem len_le (bs : List (Ch × Nat)) {M : Nat} (h : ∀ x ∈ bs, x.2 * wd x.1.1 x.1.2 ≤ M) : (lvs (exR bs)).length ≤ bs.length * M := by
  induction bs with
  | nil => exact Nat.zero_le _
  | cons b r ih =>
    rw [exR_cons, lvs_app, List.length_append, List.length_cons, Nat.succ_mul]
    have e : lvs (List.replicate b.2 b.1) = List.replicate (b.2 * wd b.1.1 b.1.2) b.1.2 := lvs_rep b.1.1 b.1.2 b.2
    rw [e, List.length_replicate]
    have h1 := h b List.mem_cons_self
    have h2 := ih fun x hx => h x (List.mem_cons_of_mem _ hx)
    omega
theorem nq_le (bs : List (Ch × Nat)) {M : Nat} (h : ∀ x ∈ bs, x.1.1 = sQ → x.2 ≤ M) : (exR bs).countP (fun c => c.1 = sQ) ≤ bs.length * M := by
  induction bs with
  | nil => exact Nat.zero_le _
  | cons b r ih =>
    rw [exR_cons, List.countP_append, List.length_cons, Nat.succ_mul, List.countP_replicate]
    have h1 := h b List.mem_cons_self
    have h2 := ih fun x hx => h x (List.mem_cons_of_mem _ hx)
    by_cases hQ : b.1.1 = sQ
    · have := h1 hQ
      rw [if_pos (by simpa using hQ)]
      omega
    · rw [if_neg (by simpa using hQ)]
      omega
end Sl

end
section
set_option linter.all false
set_option autoImplicit false
namespace Sl
/-! ### stretches: (positions, level) -/
abbrev Sts := List (Nat × Nat)
def stx (ss : Sts) : List Nat := ss.flatMap fun x => List.replicate x.1 x.2
def stB (bs : List (Ch × Nat)) : Sts := bs.map fun x => (x.2 * wd x.1.1 x.1.2, x.1.2)
theorem stx_cons (x : Nat × Nat) (r : Sts) : stx (x :: r) = List.replicate x.1 x.2 ++ stx r := rfl
theorem stx_app (a b : Sts) : stx (a ++ b) = stx a ++ stx b := List.flatMap_append
theorem stx_stB (bs : List (Ch × Nat)) : stx (stB bs) = lvs (exR bs) := by
  induction bs with
  | nil => rfl
  | cons b r ih =>
    have e : lvs (List.replicate b.2 b.1) = List.replicate (b.2 * wd b.1.1 b.1.2) b.1.2 := lvs_rep b.1.1 b.1.2 b.2
    rw [exR_cons, lvs_app, e, ← ih]
    rfl
def PosS (ss : Sts) : Prop := ∀ x ∈ ss, 1 ≤ x.1
/-- take k positions off the first one -/
def red (k : Nat) : Sts → Sts
  | [] => []
  | x :: r => if x.1 - k = 0 then r else (x.1 - k, x.2) :: r
theorem red_cons (k : Nat) (x : Nat × Nat) (r : Sts) : red k (x :: r) = if x.1 - k = 0 then r else (x.1 - k, x.2) :: r := rfl
theorem red_stx {k n a : Nat} {r : Sts} (h : k ≤ n) : stx (red k ((n, a) :: r)) = List.replicate (n - k) a ++ stx r := by
  rw [red_cons]
  by_cases e : n - k = 0
  · rw [if_pos (show (n, a).1 - k = 0 from e), e]; rfl
  · rw [if_neg (show ¬ (n, a).1 - k = 0 from e)]; rfl
theorem red_pos {k : Nat} {ss : Sts} (h : PosS ss) : PosS (red k ss) := by
  cases ss with
  | nil => exact h
  | cons x r =>
    have hr : PosS r := fun y hy => h y (List.mem_cons_of_mem _ hy)
    rw [red_cons]
    by_cases e : x.1 - k = 0
    · rw [if_pos e]; exact hr
    · rw [if_neg e]
      intro y hy
      rcases List.mem_cons.mp hy with q | q
      · rw [q]; show 1 ≤ x.1 - k; omega
      · exact hr y q
theorem red_len {k : Nat} {ss : Sts} : (red k ss).length ≤ ss.length := by
  cases ss with
  | nil => exact Nat.le_refl _
  | cons x r =>
    rw [red_cons]
    split <;> simp
theorem red_len0 {k n a : Nat} {r : Sts} (h : n - k = 0) : (red k ((n, a) :: r)).length = r.length := by
  rw [red_cons]
  rw [if_pos (show (n, a).1 - k = 0 from h)]
abbrev Ms := List (Nat × Nat × Nat)
def msx (ms : Ms) : List (Nat × Nat) := ms.flatMap fun m => List.replicate m.1 m.2
theorem msx_snoc (ms : Ms) (m : Nat × Nat × Nat) : msx (ms ++ [m]) = msx ms ++ List.replicate m.1 m.2 := by
  unfold msx
  rw [List.flatMap_append, List.flatMap_singleton]
theorem zip_split {n m a b k : Nat} {A B : List Nat} (h1 : k ≤ n) (h2 : k ≤ m) :
    (List.replicate n a ++ A).zip (List.replicate m b ++ B) = List.replicate k (a, b) ++ (List.replicate (n - k) a ++ A).zip (List.replicate (m - k) b ++ B) := by
  obtain ⟨c, rfl⟩ := Nat.exists_eq_add_of_le h1
  obtain ⟨d, rfl⟩ := Nat.exists_eq_add_of_le h2
  rw [Nat.add_sub_cancel_left, Nat.add_sub_cancel_left, ← List.replicate_append_replicate, ← List.replicate_append_replicate, List.append_assoc, List.append_assoc]
  rw [List.zip_append (by simp), List.zip_replicate']
/-! ### take -/
/-- what take leaves, and the levels it found (runs of (level, positions)) -/
theorem stx_len_pos {ss : Sts} (h : PosS ss) {n : Nat} (h0 : 0 < n) (hn : n ≤ (stx ss).length) : ∃ x r, ss = x :: r := by
  cases ss with
  | nil => have : n ≤ 0 := hn; omega
  | cons x r => exact ⟨x, r, rfl⟩
theorem stx_ex (ss : Sts) : stx ss = exR (ss.map fun x => (x.2, x.1)) := by
  unfold stx exR
  rw [List.flatMap_map]
theorem rl_len (rs : List (Nat × Nat)) : (rl (exR rs)).length ≤ rs.length := by
  unfold rl
  induction rs using snoc_ind with
  | h0 => exact Nat.le_refl _
  | h1 l x ih =>
    rw [exR_app, exR_one, List.length_append]
    exact Nat.le_trans (rnl_rep _ _ _) (Nat.succ_le_succ ih)
theorem rl_take (ss : Sts) (k : Nat) : (rl ((stx ss).take k)).length ≤ ss.length := by
  have h := rnl_mono ((stx ss).take k) ((stx ss).drop k)
  rw [List.take_append_drop, stx_ex] at h
  have h2 := rl_len (ss.map fun x => (x.2, x.1))
  rw [List.length_map] at h2
  unfold rl at h2 ⊢
  rw [stx_ex]
  exact Nat.le_trans h h2
theorem take_rep {n t lv k : Nat} {A : List Nat} (ht : t ≤ n) (hk : t ≤ k) : (List.replicate n lv ++ A).take k = List.replicate t lv ++ (List.replicate (n - t) lv ++ A).take (k - t) := by
  obtain ⟨d, rfl⟩ := Nat.exists_eq_add_of_le ht
  obtain ⟨e, rfl⟩ := Nat.exists_eq_add_of_le hk
  rw [Nat.add_sub_cancel_left, Nat.add_sub_cancel_left, ← List.replicate_append_replicate, List.append_assoc, List.take_append, List.length_replicate, List.take_of_length_le (by simp), Nat.add_sub_cancel_left]
theorem drop_rep {n t lv k : Nat} {A : List Nat} (ht : t ≤ n) (hk : t ≤ k) : (List.replicate n lv ++ A).drop k = (List.replicate (n - t) lv ++ A).drop (k - t) := by
  obtain ⟨d, rfl⟩ := Nat.exists_eq_add_of_le ht
  obtain ⟨e, rfl⟩ := Nat.exists_eq_add_of_le hk
  rw [Nat.add_sub_cancel_left, Nat.add_sub_cancel_left, ← List.replicate_append_replicate, List.append_assoc, List.drop_append, List.length_replicate, List.drop_of_length_le (by simp), Nat.add_sub_cancel_left]
  rfl
end Sl

end
section
set_option linter.all false
set_option autoImplicit false
namespace Sl
/-! ### facts -/
inductive Fact where
  | least (p l : Nat)
  | most (p l : Nat)
  | start (p : Nat)
  | inside (p : Nat)
def Fact.at : Fact → Nat
  | .least p _ => p
  | .most p _ => p
  | .start p => p
  | .inside p => p
def FOk (U : List Un) (f : Fact) : Prop := f.at < tot U ∧ match f with
  | .least _ l => l ≤ 200
  | .most _ l => l ≤ 200
  | _ => True
noncomputable def bdF (U : List Un) : Fact → Bd
  | .least p l => some (true, p, l)
  | .most p l => some (false, p, l)
  | .start p => (il U p).map fun v => (false, p, v)
  | .inside p => some (true, p, match il U p with
    | none => 201
    | some v => v + 1)
theorem il_le {U : List Un} {p v : Nat} (hp : p < tot U) (ht : tot U < 2 ^ 250) (h : il U p = some v) : v ≤ 250 := by
  unfold il at h
  cases e : gwU 0 U p with
  | none => rw [e] at h; cases h
  | some g =>
    rw [e] at h
    have gl := gwU_le (Nat.zero_le _) e
    unfold ilv at h
    by_cases h1 : g.1 = p
    · have h' : (if g.1 = p then none else some (v2 (p - g.1))) = some v := h
      rw [if_pos h1] at h'
      cases h'
    · have h' : (if g.1 = p then none else some (v2 (p - g.1))) = some v := h
      rw [if_neg h1] at h'
      cases h'
      have d0 : 0 < p - g.1 := by omega
      have h2 := Nat.le_of_dvd d0 (v2_spec d0).1
      have h3 : 2 ^ v2 (p - g.1) < 2 ^ 250 := Nat.lt_of_le_of_lt h2 (Nat.lt_of_le_of_lt (Nat.sub_le _ _) (Nat.lt_trans hp ht))
      exact Nat.le_of_lt ((Nat.pow_lt_pow_iff_right (by decide)).mp h3)
/-- a bound of the text, with a level that the machine can shift by -/
def BOk (U : List Un) : Bd → Prop
  | none => True
  | some (_, p, k) => p < tot U ∧ k ≤ 300
theorem BOk.bd {U : List Un} {b : Bd} (h : BOk U b) : BdOk U b := by
  cases b with
  | none => trivial
  | some x => obtain ⟨lo, p, k⟩ := x; exact h.1
theorem bdF_ok {U : List Un} {f : Fact} (ht : tot U < 2 ^ 250) (h : FOk U f) : BOk U (bdF U f) := by
  cases f with
  | least p l => exact ⟨h.1, by have : l ≤ 200 := h.2; omega⟩
  | most p l => exact ⟨h.1, by have : l ≤ 200 := h.2; omega⟩
  | start p =>
    have hp : p < tot U := h.1
    show BOk U ((il U p).map fun v => (false, p, v))
    cases e : il U p with
    | none => trivial
    | some v => exact ⟨hp, by have := il_le hp ht e; omega⟩
  | inside p =>
    have hp : p < tot U := h.1
    refine ⟨hp, ?_⟩
    cases e : il U p with
    | none => show 201 ≤ 300; omega
    | some v => have := il_le hp ht e; show v + 1 ≤ 300; omega
/-! ### best of a list -/
def bst (f : Nat → Nat → Nat) (d : Nat) : List Nat → Nat
  | [] => d
  | y :: ys => ys.foldl f y
theorem bst_max : ∀ xs : List Nat, bst max 0 xs = maxL 0 xs
  | [] => rfl
  | y :: ys => by
    show ys.foldl max y = (ys).foldl max (max 0 y)
    rw [Nat.zero_max]
theorem bst_min {d : Nat} : ∀ {xs : List Nat}, (∀ x ∈ xs, x ≤ d) → bst min d xs = minL d xs
  | [], _ => rfl
  | y :: ys, h => by
    show ys.foldl min y = ys.foldl min (min d y)
    rw [Nat.min_eq_right (h y List.mem_cons_self)]
def isLo (lo : Bool) : Bd → Bool
  | none => false
  | some (b, _, _) => decide (b = lo)
/-- lower bounds: (level, end of its block) -/
def lwr (U : List Un) (bs : List Bd) : List (Nat × Nat) := (bs.filter (isLo true)).filterMap fun b => b.map fun x => (x.2.2, be x.2.2 U x.2.1)
theorem lwr_lows (U : List Un) (l : Nat) : ∀ bs : List Bd, (lwr U bs).filterMap (fun x => if l ≤ x.1 then some x.2 else none) = lows U bs l
  | [] => rfl
  | b :: bs => by
    have ih := lwr_lows U l bs
    cases b with
    | none => exact ih
    | some x =>
      obtain ⟨lo, p, k⟩ := x
      cases lo with
      | false => exact ih
      | true =>
        show ((k, be k U p) :: lwr U bs).filterMap _ = (some (true, p, k) :: bs).filterMap _
        rw [List.filterMap_cons, List.filterMap_cons]
        by_cases h : l ≤ k
        · simp only [if_pos h]
          exact congrArg _ ih
        · simp only [if_neg h]
          exact ih
theorem upr_ups (l : Nat) : ∀ bs : List Bd, (bs.filter (isLo false)).filterMap (fun b => b.bind fun x => if x.2.2 < l then some x.2.1 else none) = ups bs l
  | [] => rfl
  | b :: bs => by
    have ih := upr_ups l bs
    cases b with
    | none => exact ih
    | some x =>
      obtain ⟨lo, p, k⟩ := x
      cases lo with
      | true => exact ih
      | false =>
        show (some (false, p, k) :: bs.filter (isLo false)).filterMap _ = (some (false, p, k) :: bs).filterMap _
        rw [List.filterMap_cons, List.filterMap_cons]
        by_cases h : k < l
        · simp only [Option.bind_some, if_pos h]
          exact congrArg _ ih
        · simp only [Option.bind_some, if_neg h]
          exact ih
/-- a bound, by a row -/
def satR (row : List Nat) : Bd → Bool
  | none => true
  | some (true, p, k) => decide (k ≤ levIn row p)
  | some (false, p, k) => decide (levIn row p ≤ k)
theorem satR_sat {ls row : List Nat} {b : Bd} (h : ∀ lo p k, b = some (lo, p, k) → levIn row p = lev ls p) : satR row b = sat ls b := by
  cases b with
  | none => rfl
  | some x =>
    obtain ⟨lo, p, k⟩ := x
    have := h lo p k rfl
    cases lo with
    | true => show decide _ = decide _; rw [this]
    | false => show decide _ = decide _; rw [this]
/-- stretches from the top level down -/
def sdn (r : Nat → Nat) : Nat → List (Nat × Nat)
  | 0 => [(r 0 - r 1, 0)]
  | k + 1 => (r (k + 1) - r (k + 2), k + 1) :: sdn r k
theorem sdn_stx (r : Nat → Nat) : ∀ k, stx (sdn r k) = stk r k
  | 0 => by
    show List.replicate (r 0 - r 1) 0 ++ [] = List.replicate _ 0
    rw [List.append_nil]
  | k + 1 => by
    show List.replicate _ _ ++ stx (sdn r k) = _
    rw [sdn_stx r k]
    rfl
theorem sdn_len (r : Nat → Nat) : ∀ k, (sdn r k).length = k + 1
  | 0 => rfl
  | k + 1 => by
    show (sdn r k).length + 1 = _
    rw [sdn_len r k]
theorem sdn_get (r : Nat → Nat) : ∀ (k i : Nat), i ≤ k → (sdn r k)[i]? = some (r (k - i) - r (k - i + 1), k - i)
  | 0, i, h => by
    have : i = 0 := by omega
    subst this; rfl
  | k + 1, 0, h => rfl
  | k + 1, i + 1, h => by
    show (sdn r k)[i]? = _
    rw [sdn_get r k i (by omega)]
    have : k + 1 - (i + 1) = k - i := by omega
    rw [this]
theorem stx_filter : ∀ ss : Sts, stx (ss.filter fun x => decide (0 < x.1)) = stx ss
  | [] => rfl
  | x :: r => by
    rw [List.filter_cons]
    by_cases h : 0 < x.1
    · rw [if_pos (by simpa using h), stx_cons, stx_cons, stx_filter r]
    · rw [if_neg (by simpa using h), stx_cons, stx_filter r]
      have : x.1 = 0 := by omega
      rw [this]; rfl
end Sl

end
section
set_option Elab.async false
set_option linter.all false
set_option maxRecDepth 100000
set_option maxHeartbeats 0
namespace Sl
open PySem PySem.Spec PyProof.Rows L2
def topS (i : Nat) : Stmt := PySem.Challenge.pw_slashlevels_k63_whole_facts.main.body.getD i (.Pass ⟨0, 0, 0, 0⟩)
abbrev s_Contradiction_init : Stmt := inClass (topS 2) 0
def d_Contradiction_init : He.DefD := ⟨("Contradiction", some "__init__"), "__init__", "Contradiction.__init__", defArgs s_Contradiction_init, defBody s_Contradiction_init, defScope s_Contradiction_init, [], []⟩
abbrev s_is_integer : Stmt := topS 14
def d_is_integer : He.DefD := ⟨("is_integer", none), "is_integer", "is_integer", defArgs s_is_integer, defBody s_is_integer, defScope s_is_integer, [He.Dv.non], []⟩
abbrev s_is_symbol : Stmt := topS 15
def d_is_symbol : He.DefD := ⟨("is_symbol", none), "is_symbol", "is_symbol", defArgs s_is_symbol, defBody s_is_symbol, defScope s_is_symbol, [], []⟩
abbrev s_is_run : Stmt := topS 16
def d_is_run : He.DefD := ⟨("is_run", none), "is_run", "is_run", defArgs s_is_run, defBody s_is_run, defScope s_is_run, [], []⟩
abbrev s_is_text : Stmt := topS 17
def d_is_text : He.DefD := ⟨("is_text", none), "is_text", "is_text", defArgs s_is_text, defBody s_is_text, defScope s_is_text, [], []⟩
abbrev s_checked_text : Stmt := topS 18
def d_checked_text : He.DefD := ⟨("checked_text", none), "checked_text", "checked_text", defArgs s_checked_text, defBody s_checked_text, defScope s_checked_text, [], []⟩
abbrev s_add_run : Stmt := topS 19
def d_add_run : He.DefD := ⟨("add_run", none), "add_run", "add_run", defArgs s_add_run, defBody s_add_run, defScope s_add_run, [], []⟩
abbrev s_size_of : Stmt := topS 20
def d_size_of : He.DefD := ⟨("size_of", none), "size_of", "size_of", defArgs s_size_of, defBody s_size_of, defScope s_size_of, [], []⟩
abbrev s_length_of : Stmt := topS 21
def d_length_of : He.DefD := ⟨("length_of", none), "length_of", "length_of", defArgs s_length_of, defBody s_length_of, defScope s_length_of, [], []⟩
abbrev s_check_position : Stmt := topS 22
def d_check_position : He.DefD := ⟨("check_position", none), "check_position", "check_position", defArgs s_check_position, defBody s_check_position, defScope s_check_position, [], []⟩
abbrev s_check_escapes : Stmt := topS 25
def d_check_escapes : He.DefD := ⟨("check_escapes", none), "check_escapes", "check_escapes", defArgs s_check_escapes, defBody s_check_escapes, defScope s_check_escapes, [], []⟩
abbrev s_power_of_two : Stmt := topS 26
def d_power_of_two : He.DefD := ⟨("power_of_two", none), "power_of_two", "power_of_two", defArgs s_power_of_two, defBody s_power_of_two, defScope s_power_of_two, [], []⟩
abbrev s_Part_init : Stmt := inClass (topS 27) 0
def d_Part_init : He.DefD := ⟨("Part", some "__init__"), "__init__", "Part.__init__", defArgs s_Part_init, defBody s_Part_init, defScope s_Part_init, [], []⟩
abbrev s_Part_is_group : Stmt := inClass (topS 27) 1
def d_Part_is_group : He.DefD := ⟨("Part", some "is_group"), "is_group", "Part.is_group", defArgs s_Part_is_group, defBody s_Part_is_group, defScope s_Part_is_group, [], []⟩
abbrev s_parts_of : Stmt := topS 28
def d_parts_of : He.DefD := ⟨("parts_of", none), "parts_of", "parts_of", defArgs s_parts_of, defBody s_parts_of, defScope s_parts_of, [], []⟩
abbrev s_groups_of : Stmt := topS 30
def d_groups_of : He.DefD := ⟨("groups_of", none), "groups_of", "groups_of", defArgs s_groups_of, defBody s_groups_of, defScope s_groups_of, [], []⟩
abbrev s_add_block : Stmt := topS 35
def d_add_block : He.DefD := ⟨("add_block", none), "add_block", "add_block", defArgs s_add_block, defBody s_add_block, defScope s_add_block, [], []⟩
abbrev s_is_block : Stmt := topS 36
def d_is_block : He.DefD := ⟨("is_block", none), "is_block", "is_block", defArgs s_is_block, defBody s_is_block, defScope s_is_block, [], []⟩
abbrev s_are_blocks : Stmt := topS 37
def d_are_blocks : He.DefD := ⟨("are_blocks", none), "are_blocks", "are_blocks", defArgs s_are_blocks, defBody s_are_blocks, defScope s_are_blocks, [], []⟩
abbrev s_checked_blocks : Stmt := topS 38
def d_checked_blocks : He.DefD := ⟨("checked_blocks", none), "checked_blocks", "checked_blocks", defArgs s_checked_blocks, defBody s_checked_blocks, defScope s_checked_blocks, [], []⟩
abbrev s_width_of : Stmt := topS 39
def d_width_of : He.DefD := ⟨("width_of", none), "width_of", "width_of", defArgs s_width_of, defBody s_width_of, defScope s_width_of, [], []⟩
abbrev s_add_piece : Stmt := topS 40
def d_add_piece : He.DefD := ⟨("add_piece", none), "add_piece", "add_piece", defArgs s_add_piece, defBody s_add_piece, defScope s_add_piece, [], []⟩
abbrev s_pieces_of : Stmt := topS 41
def d_pieces_of : He.DefD := ⟨("pieces_of", none), "pieces_of", "pieces_of", defArgs s_pieces_of, defBody s_pieces_of, defScope s_pieces_of, [], []⟩
abbrev s_pieces_of_text : Stmt := topS 42
def d_pieces_of_text : He.DefD := ⟨("pieces_of_text", none), "pieces_of_text", "pieces_of_text", defArgs s_pieces_of_text, defBody s_pieces_of_text, defScope s_pieces_of_text, [], []⟩
abbrev s_text_by : Stmt := topS 43
def d_text_by : He.DefD := ⟨("text_by", none), "text_by", "text_by", defArgs s_text_by, defBody s_text_by, defScope s_text_by, [], []⟩
abbrev s_add_parts : Stmt := topS 44
def d_add_parts : He.DefD := ⟨("add_parts", none), "add_parts", "add_parts", defArgs s_add_parts, defBody s_add_parts, defScope s_add_parts, [], []⟩
abbrev s_greatest_parts : Stmt := topS 45
def d_greatest_parts : He.DefD := ⟨("greatest_parts", none), "greatest_parts", "greatest_parts", defArgs s_greatest_parts, defBody s_greatest_parts, defScope s_greatest_parts, [], []⟩
abbrev s_greatest_by : Stmt := topS 46
def d_greatest_by : He.DefD := ⟨("greatest_by", none), "greatest_by", "greatest_by", defArgs s_greatest_by, defBody s_greatest_by, defScope s_greatest_by, [], []⟩
abbrev s_checked_history : Stmt := topS 47
def d_checked_history : He.DefD := ⟨("checked_history", none), "checked_history", "checked_history", defArgs s_checked_history, defBody s_checked_history, defScope s_checked_history, [], []⟩
abbrev s_is_history_of : Stmt := topS 48
def d_is_history_of : He.DefD := ⟨("is_history_of", none), "is_history_of", "is_history_of", defArgs s_is_history_of, defBody s_is_history_of, defScope s_is_history_of, [], []⟩
abbrev s_text_of : Stmt := topS 49
def d_text_of : He.DefD := ⟨("text_of", none), "text_of", "text_of", defArgs s_text_of, defBody s_text_of, defScope s_text_of, [], []⟩
abbrev s_count_characters : Stmt := topS 50
def d_count_characters : He.DefD := ⟨("count_characters", none), "count_characters", "count_characters", defArgs s_count_characters, defBody s_count_characters, defScope s_count_characters, [], []⟩
abbrev s_greatest_history : Stmt := topS 51
def d_greatest_history : He.DefD := ⟨("greatest_history", none), "greatest_history", "greatest_history", defArgs s_greatest_history, defBody s_greatest_history, defScope s_greatest_history, [], []⟩
abbrev s_is_operation : Stmt := topS 52
def d_is_operation : He.DefD := ⟨("is_operation", none), "is_operation", "is_operation", defArgs s_is_operation, defBody s_is_operation, defScope s_is_operation, [], []⟩
abbrev s_history_of : Stmt := topS 53
def d_history_of : He.DefD := ⟨("history_of", none), "history_of", "history_of", defArgs s_history_of, defBody s_history_of, defScope s_history_of, [], []⟩
abbrev s_length_by : Stmt := topS 55
def d_length_by : He.DefD := ⟨("length_by", none), "length_by", "length_by", defArgs s_length_by, defBody s_length_by, defScope s_length_by, [], []⟩
abbrev s_character_by : Stmt := topS 56
def d_character_by : He.DefD := ⟨("character_by", none), "character_by", "character_by", defArgs s_character_by, defBody s_character_by, defScope s_character_by, [], []⟩
abbrev s_numbered_by : Stmt := topS 57
def d_numbered_by : He.DefD := ⟨("numbered_by", none), "numbered_by", "numbered_by", defArgs s_numbered_by, defBody s_numbered_by, defScope s_numbered_by, [], []⟩
abbrev s_greatest_level : Stmt := topS 58
def d_greatest_level : He.DefD := ⟨("greatest_level", none), "greatest_level", "greatest_level", defArgs s_greatest_level, defBody s_greatest_level, defScope s_greatest_level, [], []⟩
abbrev s_character_at : Stmt := topS 59
def d_character_at : He.DefD := ⟨("character_at", none), "character_at", "character_at", defArgs s_character_at, defBody s_character_at, defScope s_character_at, [], []⟩
abbrev s_checked_pair : Stmt := topS 61
def d_checked_pair : He.DefD := ⟨("checked_pair", none), "checked_pair", "checked_pair", defArgs s_checked_pair, defBody s_checked_pair, defScope s_checked_pair, [], []⟩
abbrev s_stretches_of : Stmt := topS 62
def d_stretches_of : He.DefD := ⟨("stretches_of", none), "stretches_of", "stretches_of", defArgs s_stretches_of, defBody s_stretches_of, defScope s_stretches_of, [], []⟩
abbrev s_common_stretches : Stmt := topS 63
def d_common_stretches : He.DefD := ⟨("common_stretches", none), "common_stretches", "common_stretches", defArgs s_common_stretches, defBody s_common_stretches, defScope s_common_stretches, [], []⟩
abbrev s_take : Stmt := topS 64
def d_take : He.DefD := ⟨("take", none), "take", "take", defArgs s_take, defBody s_take, defScope s_take, [], []⟩
abbrev s_blocks_with : Stmt := topS 65
def d_blocks_with : He.DefD := ⟨("blocks_with", none), "blocks_with", "blocks_with", defArgs s_blocks_with, defBody s_blocks_with, defScope s_blocks_with, [], []⟩
abbrev s_is_below : Stmt := topS 66
def d_is_below : He.DefD := ⟨("is_below", none), "is_below", "is_below", defArgs s_is_below, defBody s_is_below, defScope s_is_below, [], []⟩
abbrev s_count_by : Stmt := topS 67
def d_count_by : He.DefD := ⟨("count_by", none), "count_by", "count_by", defArgs s_count_by, defBody s_count_by, defScope s_count_by, [], []⟩
abbrev s_with_level : Stmt := topS 68
def d_with_level : He.DefD := ⟨("with_level", none), "with_level", "with_level", defArgs s_with_level, defBody s_with_level, defScope s_with_level, [], []⟩
abbrev s_lowered_by : Stmt := topS 69
def d_lowered_by : He.DefD := ⟨("lowered_by", none), "lowered_by", "lowered_by", defArgs s_lowered_by, defBody s_lowered_by, defScope s_lowered_by, [], []⟩
abbrev s_checked_number : Stmt := topS 70
def d_checked_number : He.DefD := ⟨("checked_number", none), "checked_number", "checked_number", defArgs s_checked_number, defBody s_checked_number, defScope s_checked_number, [], []⟩
abbrev s_lowered : Stmt := topS 71
def d_lowered : He.DefD := ⟨("lowered", none), "lowered", "lowered", defArgs s_lowered, defBody s_lowered, defScope s_lowered, [], []⟩
abbrev s_Places_init : Stmt := inClass (topS 74) 0
def d_Places_init : He.DefD := ⟨("Places", some "__init__"), "__init__", "Places.__init__", defArgs s_Places_init, defBody s_Places_init, defScope s_Places_init, [], []⟩
abbrev s_Places_group_with : Stmt := inClass (topS 74) 1
def d_Places_group_with : He.DefD := ⟨("Places", some "group_with"), "group_with", "Places.group_with", defArgs s_Places_group_with, defBody s_Places_group_with, defScope s_Places_group_with, [], []⟩
abbrev s_Places_last_place : Stmt := inClass (topS 74) 2
def d_Places_last_place : He.DefD := ⟨("Places", some "last_place"), "last_place", "Places.last_place", defArgs s_Places_last_place, defBody s_Places_last_place, defScope s_Places_last_place, [], []⟩
abbrev s_Places_place_until : Stmt := inClass (topS 74) 3
def d_Places_place_until : He.DefD := ⟨("Places", some "place_until"), "place_until", "Places.place_until", defArgs s_Places_place_until, defBody s_Places_place_until, defScope s_Places_place_until, [], []⟩
abbrev s_Places_block_end : Stmt := inClass (topS 74) 4
def d_Places_block_end : He.DefD := ⟨("Places", some "block_end"), "block_end", "Places.block_end", defArgs s_Places_block_end, defBody s_Places_block_end, defScope s_Places_block_end, [], []⟩
abbrev s_Places_inner_level : Stmt := inClass (topS 74) 5
def d_Places_inner_level : He.DefD := ⟨("Places", some "inner_level"), "inner_level", "Places.inner_level", defArgs s_Places_inner_level, defBody s_Places_inner_level, defScope s_Places_inner_level, [], []⟩
abbrev s_row_of : Stmt := topS 75
def d_row_of : He.DefD := ⟨("row_of", none), "row_of", "row_of", defArgs s_row_of, defBody s_row_of, defScope s_row_of, [], []⟩
abbrev s_history_by : Stmt := topS 76
def d_history_by : He.DefD := ⟨("history_by", none), "history_by", "history_by", defArgs s_history_by, defBody s_history_by, defScope s_history_by, [], []⟩
abbrev s_is_fact : Stmt := topS 77
def d_is_fact : He.DefD := ⟨("is_fact", none), "is_fact", "is_fact", defArgs s_is_fact, defBody s_is_fact, defScope s_is_fact, [], []⟩
abbrev s_bound_of : Stmt := topS 78
def d_bound_of : He.DefD := ⟨("bound_of", none), "bound_of", "bound_of", defArgs s_bound_of, defBody s_bound_of, defScope s_bound_of, [], []⟩
abbrev s_Bounds_init : Stmt := inClass (topS 79) 0
def d_Bounds_init : He.DefD := ⟨("Bounds", some "__init__"), "__init__", "Bounds.__init__", defArgs s_Bounds_init, defBody s_Bounds_init, defScope s_Bounds_init, [], []⟩
abbrev s_Bounds_is_possible : Stmt := inClass (topS 79) 1
def d_Bounds_is_possible : He.DefD := ⟨("Bounds", some "is_possible"), "is_possible", "Bounds.is_possible", defArgs s_Bounds_is_possible, defBody s_Bounds_is_possible, defScope s_Bounds_is_possible, [], []⟩
abbrev s_Bounds_do_contradict : Stmt := inClass (topS 79) 2
def d_Bounds_do_contradict : He.DefD := ⟨("Bounds", some "do_contradict"), "do_contradict", "Bounds.do_contradict", defArgs s_Bounds_do_contradict, defBody s_Bounds_do_contradict, defScope s_Bounds_do_contradict, [], []⟩
abbrev s_Bounds_contradicting : Stmt := inClass (topS 79) 3
def d_Bounds_contradicting : He.DefD := ⟨("Bounds", some "contradicting"), "contradicting", "Bounds.contradicting", defArgs s_Bounds_contradicting, defBody s_Bounds_contradicting, defScope s_Bounds_contradicting, [], []⟩
abbrev s_Bounds_check : Stmt := inClass (topS 79) 4
def d_Bounds_check : He.DefD := ⟨("Bounds", some "check"), "check", "Bounds.check", defArgs s_Bounds_check, defBody s_Bounds_check, defScope s_Bounds_check, [], []⟩
abbrev s_Bounds_least_row : Stmt := inClass (topS 79) 5
def d_Bounds_least_row : He.DefD := ⟨("Bounds", some "least_row"), "least_row", "Bounds.least_row", defArgs s_Bounds_least_row, defBody s_Bounds_least_row, defScope s_Bounds_least_row, [], []⟩
abbrev s_Bounds_greatest_row : Stmt := inClass (topS 79) 6
def d_Bounds_greatest_row : He.DefD := ⟨("Bounds", some "greatest_row"), "greatest_row", "Bounds.greatest_row", defArgs s_Bounds_greatest_row, defBody s_Bounds_greatest_row, defScope s_Bounds_greatest_row, [], []⟩
abbrev s_Bounds_known : Stmt := inClass (topS 79) 7
def d_Bounds_known : He.DefD := ⟨("Bounds", some "known"), "known", "Bounds.known", defArgs s_Bounds_known, defBody s_Bounds_known, defScope s_Bounds_known, [], []⟩
abbrev s_level_in : Stmt := topS 80
def d_level_in : He.DefD := ⟨("level_in", none), "level_in", "level_in", defArgs s_level_in, defBody s_level_in, defScope s_level_in, [], []⟩
abbrev s_bounds_of : Stmt := topS 81
def d_bounds_of : He.DefD := ⟨("bounds_of", none), "bounds_of", "bounds_of", defArgs s_bounds_of, defBody s_bounds_of, defScope s_bounds_of, [], []⟩
abbrev s_holds : Stmt := topS 82
def d_holds : He.DefD := ⟨("holds", none), "holds", "holds", defArgs s_holds, defBody s_holds, defScope s_holds, [], []⟩
abbrev s_satisfies : Stmt := topS 83
def d_satisfies : He.DefD := ⟨("satisfies", none), "satisfies", "satisfies", defArgs s_satisfies, defBody s_satisfies, defScope s_satisfies, [], []⟩
abbrev s_contradiction : Stmt := topS 84
def d_contradiction : He.DefD := ⟨("contradiction", none), "contradiction", "contradiction", defArgs s_contradiction, defBody s_contradiction, defScope s_contradiction, [], []⟩
abbrev s_greatest_with : Stmt := topS 85
def d_greatest_with : He.DefD := ⟨("greatest_with", none), "greatest_with", "greatest_with", defArgs s_greatest_with, defBody s_greatest_with, defScope s_greatest_with, [], []⟩
abbrev s_least_with : Stmt := topS 86
def d_least_with : He.DefD := ⟨("least_with", none), "least_with", "least_with", defArgs s_least_with, defBody s_least_with, defScope s_least_with, [], []⟩
abbrev s_level_range : Stmt := topS 87
def d_level_range : He.DefD := ⟨("level_range", none), "level_range", "level_range", defArgs s_level_range, defBody s_level_range, defScope s_level_range, [], []⟩
abbrev s_implied_by : Stmt := topS 88
def d_implied_by : He.DefD := ⟨("implied_by", none), "implied_by", "implied_by", defArgs s_implied_by, defBody s_implied_by, defScope s_implied_by, [], []⟩
abbrev s__law_stream : Stmt := topS 90
def d__law_stream : He.DefD := ⟨("_law_stream", none), "_law_stream", "_law_stream", defArgs s__law_stream, defBody s__law_stream, defScope s__law_stream, [], []⟩
abbrev s__law_draw : Stmt := topS 91
def d__law_draw : He.DefD := ⟨("_law_draw", none), "_law_draw", "_law_draw", defArgs s__law_draw, defBody s__law_draw, defScope s__law_draw, [], []⟩
abbrev s__law_text : Stmt := topS 92
def d__law_text : He.DefD := ⟨("_law_text", none), "_law_text", "_law_text", defArgs s__law_text, defBody s__law_text, defScope s__law_text, [], []⟩
abbrev s__law_script : Stmt := topS 93
def d__law_script : He.DefD := ⟨("_law_script", none), "_law_script", "_law_script", defArgs s__law_script, defBody s__law_script, defScope s__law_script, [], []⟩
abbrev s__law_lowered : Stmt := topS 94
def d__law_lowered : He.DefD := ⟨("_law_lowered", none), "_law_lowered", "_law_lowered", defArgs s__law_lowered, defBody s__law_lowered, defScope s__law_lowered, [], []⟩
abbrev s__law_true_fact : Stmt := topS 95
def d__law_true_fact : He.DefD := ⟨("_law_true_fact", none), "_law_true_fact", "_law_true_fact", defArgs s__law_true_fact, defBody s__law_true_fact, defScope s__law_true_fact, [], []⟩
abbrev s__law_any_fact : Stmt := topS 96
def d__law_any_fact : He.DefD := ⟨("_law_any_fact", none), "_law_any_fact", "_law_any_fact", defArgs s__law_any_fact, defBody s__law_any_fact, defScope s__law_any_fact, [], []⟩
abbrev s__law_opposite : Stmt := topS 97
def d__law_opposite : He.DefD := ⟨("_law_opposite", none), "_law_opposite", "_law_opposite", defArgs s__law_opposite, defBody s__law_opposite, defScope s__law_opposite, [], []⟩
abbrev s__law_consistent_holds : Stmt := topS 98
def d__law_consistent_holds : He.DefD := ⟨("_law_consistent_holds", none), "_law_consistent_holds", "_law_consistent_holds", defArgs s__law_consistent_holds, defBody s__law_consistent_holds, defScope s__law_consistent_holds, [], []⟩
abbrev s__law_implied_holds : Stmt := topS 99
def d__law_implied_holds : He.DefD := ⟨("_law_implied_holds", none), "_law_implied_holds", "_law_implied_holds", defArgs s__law_implied_holds, defBody s__law_implied_holds, defScope s__law_implied_holds, [], []⟩
abbrev s__law_more_holds : Stmt := topS 100
def d__law_more_holds : He.DefD := ⟨("_law_more_holds", none), "_law_more_holds", "_law_more_holds", defArgs s__law_more_holds, defBody s__law_more_holds, defScope s__law_more_holds, [], []⟩
abbrev s__law_holds : Stmt := topS 101
def d__law_holds : He.DefD := ⟨("_law_holds", none), "_law_holds", "_law_holds", defArgs s__law_holds, defBody s__law_holds, defScope s__law_holds, [], []⟩
abbrev s_law : Stmt := topS 102
def d_law : He.DefD := ⟨("law", none), "law", "law", defArgs s_law, defBody s_law, defScope s_law, [], []⟩
def fnL : List He.DefD := [d_Contradiction_init, d_is_integer, d_is_symbol, d_is_run, d_is_text, d_checked_text, d_add_run, d_size_of, d_length_of, d_check_position, d_check_escapes, d_power_of_two, d_Part_init, d_Part_is_group, d_parts_of, d_groups_of, d_add_block, d_is_block, d_are_blocks, d_checked_blocks, d_width_of, d_add_piece, d_pieces_of, d_pieces_of_text, d_text_by, d_add_parts, d_greatest_parts, d_greatest_by, d_checked_history, d_is_history_of, d_text_of, d_count_characters, d_greatest_history, d_is_operation, d_history_of, d_length_by, d_character_by, d_numbered_by, d_greatest_level, d_character_at, d_checked_pair, d_stretches_of, d_common_stretches, d_take, d_blocks_with, d_is_below, d_count_by, d_with_level, d_lowered_by, d_checked_number, d_lowered, d_Places_init, d_Places_group_with, d_Places_last_place, d_Places_place_until, d_Places_block_end, d_Places_inner_level, d_row_of, d_history_by, d_is_fact, d_bound_of, d_Bounds_init, d_Bounds_is_possible, d_Bounds_do_contradict, d_Bounds_contradicting, d_Bounds_check, d_Bounds_least_row, d_Bounds_greatest_row, d_Bounds_known, d_level_in, d_bounds_of, d_holds, d_satisfies, d_contradiction, d_greatest_with, d_least_with, d_level_range, d_implied_by, d__law_stream, d__law_draw, d__law_text, d__law_script, d__law_lowered, d__law_true_fact, d__law_any_fact, d__law_opposite, d__law_consistent_holds, d__law_implied_holds, d__law_more_holds, d__law_holds, d_law]
def faL : List He.Fa := [.glo "is_integer", .glo "is_symbol", .glo "is_run", .glo "is_text", .glo "checked_text", .glo "add_run", .glo "size_of", .glo "length_of", .glo "check_position", .glo "check_escapes", .glo "power_of_two", .glo "parts_of", .glo "groups_of", .glo "add_block", .glo "is_block", .glo "are_blocks", .glo "checked_blocks", .glo "width_of", .glo "add_piece", .glo "pieces_of", .glo "pieces_of_text", .glo "text_by", .glo "add_parts", .glo "greatest_parts", .glo "greatest_by", .glo "checked_history", .glo "is_history_of", .glo "text_of", .glo "count_characters", .glo "greatest_history", .glo "is_operation", .glo "history_of", .glo "length_by", .glo "character_by", .glo "numbered_by", .glo "greatest_level", .glo "character_at", .glo "checked_pair", .glo "stretches_of", .glo "common_stretches", .glo "take", .glo "blocks_with", .glo "is_below", .glo "count_by", .glo "with_level", .glo "lowered_by", .glo "checked_number", .glo "lowered", .glo "row_of", .glo "history_by", .glo "is_fact", .glo "bound_of", .glo "level_in", .glo "bounds_of", .glo "holds", .glo "satisfies", .glo "contradiction", .glo "greatest_with", .glo "least_with", .glo "level_range", .glo "implied_by", .glo "_law_stream", .glo "_law_draw", .glo "_law_text", .glo "_law_script", .glo "_law_lowered", .glo "_law_true_fact", .glo "_law_any_fact", .glo "_law_opposite", .glo "_law_consistent_holds", .glo "_law_implied_holds", .glo "_law_more_holds", .glo "_law_holds", .glo "law", .glo "Part", .glo "Places", .glo "Bounds", .glo "SPECIAL", .glo "NoMove", .glo "Contradiction", .glo "SlashError", .free "all", .free "any", .free "len", .free "isinstance", .free "int", .free "str", .free "bool", .free "list", .free "tuple", .free "sum", .free "range", .free "zip", .free "enumerate", .free "max", .free "min", .free "ord", .free "abs", .free "divmod", .free "sorted", .free "ValueError", .int "PERCENT_CODE" 37, .int "MAX_ESCAPES" 200, .int "MAX_FACTS" 400, .str "BACKSLASH" "\\", .str "QUOTE" "\"", .str "APPEND" "append", .str "ESCAPE" "escape", .cls "Part", .mkr "Part", .noat "Part" "start", .noat "Part" "symbol", .noat "Part" "size", .noat "Part" "quoted", .noat "Part" "many", .meth "Part" "is_group", .cls "Places", .mkr "Places", .noat "Places" "length", .noat "Places" "groups", .meth "Places" "group_with", .meth "Places" "last_place", .meth "Places" "place_until", .meth "Places" "block_end", .meth "Places" "inner_level", .cls "Bounds", .mkr "Bounds", .noat "Bounds" "places", .noat "Bounds" "escapes", .noat "Bounds" "bounds", .meth "Bounds" "is_possible", .meth "Bounds" "do_contradict", .meth "Bounds" "contradicting", .meth "Bounds" "check", .meth "Bounds" "least_row", .meth "Bounds" "greatest_row", .meth "Bounds" "known", .exc "NoMove", .exm "NoMove" "NoMove" true, .exm "Contradiction" "Contradiction" true, .keep "Contradiction"]
/-- the class at C is an exception class over ValueError with a dict of its own -/
def oexB (K : PySem.W.Frag) (C : Addr) : Bool := match K.lookup C with
  | some ⟨.type "type", _, .cls cd, sl⟩ => (match cd.mro, sl.toList with
    | .ref C' :: bm, [_, _, _, _, some (.builtin n), _] => C' == C && (n == "ValueError.__new__" && (!cd.hasDel && (cd.hasDict && PySem.HandSPX.refsVE bm)))
    | _, _ => false)
  | _ => false
def ctrAt : Str × Option Str := ("Contradiction", some "__init__")
/-- the class Contradiction -/
def xcB (K : PySem.W.Frag) : Bool := let C := He.ga K "Contradiction"
  oexB K C && (decide (PySem.W.findIn K (.ref C) "__setattr__" = some (some (.builtin "object.__setattr__"))) && (decide (PySem.W.subIn K (.ref C) (.type "BaseException") = some true) && (decide (PySem.W.typeIn K (.ref C) = some (.type "type")) && (PySem.W.keepIn K (.ref C) &&
    (decide (PySem.W.findIn K (.ref C) "__init__" = some (some (.ref (He.fAd K ctrAt)))) && (decide (PySem.W.typeIn K (.ref (He.fAd K ctrAt)) = some (.type "function")) && (decide (PySem.W.findIn K (.ref C) "indices" = some none) && xfB K C)))))))
def valB : Option PySem.W.CFound → Bool
  | some (.val (.builtin n)) => n == "ValueError.__init__"
  | _ => false
/-- SlashError.__init__ is ValueError's -/
def xsB (K : PySem.W.Frag) : Bool := let S := He.ga K "SlashError"
  PySem.W.readsIn K S (.type "type") && (decide (PySem.W.specialIn K (.ref S) "__getattribute__" = some (some (.builtin "type.__getattribute__"))) && valB (PySem.W.findCls K (.ref S) (.type "type") "__init__"))
/-- further facts: SPECIAL's items, the classes Contradiction and SlashError -/
def extra (K : PySem.W.Frag) : Bool :=
  He.tupB K "SPECIAL" [.str "\\", .str "\""] && (xcB K && xsB K)

abbrev AlX : Type := Bool × He.AlD
def obsX (K : PySem.W.Frag) : AlX := (extra K, He.obsD faL fnL K)
def valX : AlX := (true, He.valD fnL)
/-- what the walk leans on -/
def SaysX (K : PySem.W.Frag) : Prop := obsX K = valX
end Sl

end
section
set_option Elab.async false
set_option linter.all false
set_option maxRecDepth 100000
set_option maxHeartbeats 2000000
namespace Sl
open PySem PySem.Spec PyProof.Rows L2
/-! ### what the top has written -/
structure Txt (K : PySem.W.Frag) (mg : Str → Option Value) : Prop where
  c : SaysX K
  ex : ∃ h : Heap, K.In h ∧ h.Ns mainGlobals mg
section
variable {K : PySem.W.Frag} {mg : Str → Option Value}
theorem Txt.d (T : Txt K mg) : He.SaysD faL fnL K := congrArg (fun z : AlX => z.2) T.c
theorem Txt.x (T : Txt K mg) : extra K = true := congrArg (fun z : AlX => z.1) T.c
theorem Txt.fact (T : Txt K mg) (i : Nat) {f : He.Fa} (h : faL[i]? = some f := by rfl) : f.ok K = true := T.d.fact i h
theorem Txt.glo (T : Txt K mg) (i : Nat) {x : Str} (h : faL[i]? = some (.glo x) := by rfl) : mg x = some (.ref (He.ga K x)) := by
  obtain ⟨h0, X, G⟩ := T.ex
  exact He.glo_ok X G (T.fact i h)
theorem Txt.free (T : Txt K mg) (i : Nat) {x : Str} (h : faL[i]? = some (.free x) := by rfl) : mg x = none := by
  obtain ⟨h0, X, G⟩ := T.ex
  exact He.free_ok X G (T.fact i h)
theorem Txt.int (T : Txt K mg) (i : Nat) {x : Str} {n : Int} (h : faL[i]? = some (.int x n) := by rfl) : ∃ t, mg x = some (.int n t) := by
  obtain ⟨h0, X, G⟩ := T.ex
  exact He.int_ok X G (T.fact i h)
theorem Txt.str (T : Txt K mg) (i : Nat) {x z : Str} (h : faL[i]? = some (.str x z) := by rfl) : ∃ t, mg x = some (.str z t) := by
  obtain ⟨h0, X, G⟩ := T.ex
  exact He.str_ok X G (T.fact i h)
theorem Txt.def_ (T : Txt K mg) (i : Nat) {d : He.DefD} (h : fnL[i]? = some d := by rfl) : ∃ fd, FunD K d.name d.qual d.params d.body d.scope (d.dvs K) (d.kws K) (He.fAd K d.at_) fd := T.d.def_ i h
end

/-! ### a def that may be called -/
structure Cl (P : Program) (w : World) (K : PySem.W.Frag) (mg : Str → Option Value) (base : Heap) (CX : CXT) (x : Str) (ps : List Str) (k : Nat) (dvs : List V) (sp : Sp) : Prop where
  ex : ∃ (f : Addr) (fd : FuncData) (ds : List Value), mg x = some (.ref f) ∧ PySem.W.keepIn K (.ref f) = true ∧ Binds K fd ps ds ∧ Vals dvs ds ∧ FnOk P w K mg base CX k f fd ps sp
section
variable {P : Program} {w : World} {K : PySem.W.Frag} {mg : Str → Option Value} {base : Heap} {CX : CXT}
theorem cl_ok {x qual : Str} {params : Arguments} {body : List Stmt} {scope : Scope} {f : Addr} {fd : FuncData} {N ps : List Str} {k : Nat} {sp : Sp} (F : FunD K x qual params body scope [] [] f fd) (hm : mg x = some (.ref f))
    (hb : ∀ (kV doc pm : Value) (an : Option Addr) (cdv ct : Value) (us : List Value), us.length = ps.length → bindArgs (PySem.W.fnOf x qual params body scope .none kV doc pm an cdv ct) ⟨us, []⟩ = pure (ps.zip us))
    (S : FnScope N ps scope) (len : ∀ vs H Q E, sp vs H Q E → vs.length = ps.length)
    (hbody : ∀ (cdv : Value) (A : Around) (outer : List Env) (s : Shared) (H : Hp) (vs : List V) (Q : VK) (E : XK), Room k (A.deeper (envOfC qual scope s.heap.objs.size f cdv)) → sp vs H Q E →
      ∃ t, PSs (cxOf CX0 P w K mg base N qual scope f cdv A outer s H E).nox body t ∧ t { nx := fun _ H' => Q .non H', rt := Q } (start N vs) H) : Cl P w K mg base CX0 x ps (k + 1) [] sp :=
  ⟨f, fd, [], hm, F.kp, F.bindsN hb, .nil, F.ok S len fun cdv A outer s H vs Q E hr h => by
    obtain ⟨t, h1, h2⟩ := hbody cdv A outer s H vs Q E hr h
    exact ⟨t, h1.nox, h2⟩⟩
variable {X : Cx} {x : Str} {e : Expr} {es : List Expr} {t : TA} {p pos : Pos} {ps : List Str} {k : Nat} {dvs : List V} {sp : Sp}
theorem pe_cl (C : Cl X.prog X.w X.K X.mg X.base CX0 x ps k dvs sp) (hr : Room k X.A) (ha : PA X (e :: es) t) (hg : Gl X x := by rfl) (hdb : (x == ("__debug__" : Str)) = false := by decide)
    (he : starEach (e :: es) X.env = (false, eval e X.env) :: starEach es X.env := by rfl) (hpl : (backTo pos (starEach es X.env)).any (·.1) = false := by rfl) : PE X (.Call (.Name x p) (e :: es) [] pos) (tCall sp dvs E0 t) := by
  obtain ⟨f, fd, ds, hm, hk, hb, hd, F⟩ := C.ex
  exact pe_call F hr hg hm hk hb hd pass0 ha hdb he hpl
end
/-! ### heaps -/
theorem Same.new {H : Hp} {p : Addr} {o : HO} (np : H p = none) : Same H (upd H p o) := fun b u e => by
  rw [upd_ne (ne_of_none e np)]; exact e
theorem Same.mut {H0 H : Hp} {l : Addr} {o : HO} (e : Same H0 H) (h : H0 l = none) : Same H0 (upd H l o) := fun b u q => by
  rw [upd_ne (ne_of_none q h)]; exact e b u q
/-- all but what stands at l is as it was -/
def Mod (l : Addr) (H H' : Hp) : Prop := ∀ b o, b ≠ l → H b = some o → H' b = some o
theorem Mod.same {H0 H H' : Hp} {l : Addr} (m : Mod l H H') (e : Same H0 H) (h : H0 l = none) : Same H0 H' := fun b o q => m b o (ne_of_none q h) (e b o q)
theorem Mod.upd {l : Addr} {H : Hp} {o : HO} : Mod l H (upd H l o) := fun b u hb e => by rw [upd_ne hb]; exact e
theorem Mod.refl {l : Addr} {H : Hp} : Mod l H H := fun _ _ _ e => e
theorem Mod.trans {l : Addr} {H H1 H2 : Hp} (a : Mod l H H1) (b : Mod l H1 H2) : Mod l H H2 := fun c o hc e => b c o hc (a c o hc e)
theorem Mod.of_same {l : Addr} {H H1 : Hp} (a : Same H H1) : Mod l H H1 := fun b o _ e => a b o e
theorem SqL.h {K : PySem.W.Frag} {H : Hp} {a : Addr} {xs : List V} (h : H a = some (.lst xs)) : SqL K H a xs := .inl (.inl h)
theorem SqT.h {K : PySem.W.Frag} {H : Hp} {a : Addr} {xs : List V} (h : H a = some (.tup xs)) : SqT K H a xs := .inl (.inl h)

/-- a list of tuples of flat values -/
def RowV (H : Hp) (x : V) (r : List V) : Prop := ∃ t, x = .ref t ∧ H t = some (.tup r)
def LT (H : Hp) (a : Addr) (rows : List (List V)) : Prop := ∃ xs, H a = some (.lst xs) ∧ Paired (RowV H) xs rows
theorem RowV.same {H H' : Hp} (e : Same H H') {x : V} {r : List V} (h : RowV H x r) : RowV H' x r := let ⟨t, a, b⟩ := h; ⟨t, a, e _ _ b⟩
theorem LT.same {H H' : Hp} {a : Addr} {rows : List (List V)} (h : LT H a rows) (e : Same H H') : LT H' a rows :=
  let ⟨xs, h1, h2⟩ := h; ⟨xs, e _ _ h1, L2.Paired.mapP h2 fun _ _ r => r.same e⟩
theorem RowV.mod {H H' : Hp} {l : Addr} {ys : List V} (m : Mod l H H') (hl : H l = some (.lst ys)) {x : V} {r : List V} (h : RowV H x r) : RowV H' x r :=
  let ⟨t, a, b⟩ := h; ⟨t, a, m _ _ (ne_of b hl (fun z => by cases z)) b⟩
theorem LT.mod {H H' : Hp} {a l : Addr} {rows : List (List V)} {ys : List V} (h : LT H a rows) (ne : a ≠ l) (hl : H l = some (.lst ys)) (m : Mod l H H') : LT H' a rows :=
  let ⟨xs, h1, h2⟩ := h; ⟨xs, m _ _ ne h1, L2.Paired.mapP h2 fun _ _ r => r.mod m hl⟩
theorem LT.lst {H : Hp} {a : Addr} {rows : List (List V)} (h : LT H a rows) : ∃ xs, H a = some (.lst xs) ∧ xs.length = rows.length := let ⟨xs, h1, h2⟩ := h; ⟨xs, h1, Paired.length h2⟩
theorem Paired.get2 {α β : Type} {R : α → β → Prop} : ∀ {xs : List α} {ys : List β} {i : Nat} {y : β}, Paired R xs ys → ys[i]? = some y → ∃ x, xs[i]? = some x ∧ R x y
  | _, _, _, _, .nil, e => by simp at e
  | _, _, 0, _, .cons r _, e => by simp at e; subst e; exact ⟨_, rfl, r⟩
  | _, _, i + 1, y, .cons _ t, e => by
    obtain ⟨u, h1, h2⟩ := Paired.get2 (i := i) (y := y) t (by simpa using e)
    exact ⟨u, by simpa using h1, h2⟩
theorem Paired.get1 {α β : Type} {R : α → β → Prop} : ∀ {xs : List α} {ys : List β} {i : Nat} {x : α}, Paired R xs ys → xs[i]? = some x → ∃ y, ys[i]? = some y ∧ R x y
  | _, _, _, _, .nil, e => by simp at e
  | _, _, 0, _, .cons r _, e => by simp at e; subst e; exact ⟨_, rfl, r⟩
  | _, _, i + 1, y, .cons _ t, e => by
    obtain ⟨u, h1, h2⟩ := Paired.get1 (i := i) (x := y) t (by simpa using e)
    exact ⟨u, by simpa using h1, h2⟩
theorem Paired.app {α β : Type} {R : α → β → Prop} : ∀ {xs xs' : List α} {ys ys' : List β}, Paired R xs ys → Paired R xs' ys' → Paired R (xs ++ xs') (ys ++ ys')
  | _, _, _, _, .nil, s => s
  | _, _, _, _, .cons r t, s => .cons r (Paired.app t s)
theorem Paired.split {α β : Type} {R : α → β → Prop} : ∀ {xs : List α} {ys ys' : List β}, Paired R xs (ys ++ ys') → ∃ a b, xs = a ++ b ∧ Paired R a ys ∧ Paired R b ys'
  | xs, [], ys', h => ⟨[], xs, rfl, .nil, h⟩
  | _, y :: ys, ys', .cons r t => by
    obtain ⟨a, b, e, h1, h2⟩ := Paired.split (ys := ys) (ys' := ys') t
    exact ⟨_ :: a, b, by rw [e]; rfl, .cons r h1, h2⟩
theorem LT.get {H : Hp} {a : Addr} {rows : List (List V)} {i : Nat} {r : List V} (h : LT H a rows) (e : rows[i]? = some r) : ∃ xs t, H a = some (.lst xs) ∧ xs[i]? = some (.ref t) ∧ H t = some (.tup r) := by
  obtain ⟨xs, h1, h2⟩ := h
  obtain ⟨x, e1, t, rfl, e2⟩ := Paired.get2 h2 e
  exact ⟨xs, t, h1, e1, e2⟩
/-- a new tuple behind the list -/
theorem LT.push {H : Hp} {l p : Addr} {rows : List (List V)} {r xs : List V} (h : LT H l rows) (hl : H l = some (.lst xs)) (hp : H p = some (.tup r)) : LT (upd H l (.lst (xs ++ [.ref p]))) l (rows ++ [r]) := by
  obtain ⟨ys, h1, h2⟩ := h
  rw [hl] at h1
  cases h1
  have m : Mod l H (L2.upd H l (.lst (xs ++ [.ref p]))) := Mod.upd
  refine ⟨_, upd_same, Paired.app (L2.Paired.mapP h2 fun _ _ q => q.mod m hl) (.cons ⟨p, rfl, ?_⟩ .nil)⟩
  exact m _ _ (ne_of hp hl (fun z => by cases z)) hp
theorem Paired.set {α β : Type} {R : α → β → Prop} {x : α} {y : β} (r : R x y) : ∀ {xs : List α} {ys : List β} (i : Nat), Paired R xs ys → Paired R (xs.set i x) (ys.set i y)
  | _, _, _, .nil => .nil
  | _, _, 0, .cons _ t => .cons r t
  | _, _, i + 1, .cons q t => .cons q (Paired.set r i t)
/-- a new tuple at a place -/
theorem LT.put {H : Hp} {l p : Addr} {rows : List (List V)} {r xs : List V} {i : Nat} (h : LT H l rows) (hl : H l = some (.lst xs)) (hp : H p = some (.tup r)) : LT (upd H l (.lst (xs.set i (.ref p)))) l (rows.set i r) := by
  obtain ⟨ys, h1, h2⟩ := h
  rw [hl] at h1
  cases h1
  have m : Mod l H (L2.upd H l (.lst (xs.set i (.ref p)))) := Mod.upd
  refine ⟨_, upd_same, Paired.set ?_ i (L2.Paired.mapP h2 fun _ _ q => q.mod m hl)⟩
  exact ⟨p, rfl, m _ _ (ne_of hp hl (fun z => by cases z)) hp⟩
theorem LT.nil {H : Hp} {p : Addr} (h : H p = some (.lst [])) : LT H p [] := ⟨[], h, .nil⟩
theorem z1 {a : V} : ([a] : List V).length ≤ sizeLine := by show 1 ≤ sizeLine; decide
theorem z2 {a b : V} : ([a, b] : List V).length ≤ sizeLine := by show 2 ≤ sizeLine; decide
theorem z3 {a b c : V} : ([a, b, c] : List V).length ≤ sizeLine := by show 3 ≤ sizeLine; decide
theorem z4 {a b c d : V} : ([a, b, c, d] : List V).length ≤ sizeLine := by show 4 ≤ sizeLine; decide
theorem z5 {a b c d e : V} : ([a, b, c, d, e] : List V).length ≤ sizeLine := by show 5 ≤ sizeLine; decide
theorem z0 : ([] : List V).length ≤ sizeLine := Nat.zero_le _
theorem slt {n : Nat} (h : n ≤ 1000000) : n < sizeLine := Nat.lt_of_le_of_lt h (by decide)
theorem sle {n : Nat} (h : n ≤ 1000000) : n ≤ sizeLine := Nat.le_of_lt (slt h)
/-! ### flat data, for == -/
def pdV : V → PyData
  | .non => .none
  | .bl b => .bool b
  | .int i => .int i
  | .str x => .str x
  | _ => .none
def flat4 : V → Bool
  | .non => true
  | .bl _ => true
  | .int _ => true
  | .str _ => true
  | _ => false
theorem dp_flat {K : PySem.W.Frag} {H : Hp} : ∀ {v : V}, flat4 v = true → Dp K H v (pdV v)
  | .non, _ => .non
  | .bl b, _ => .bl b
  | .int i, _ => .int i
  | .str x, _ => .str x
  | .byt _, h => by cases h
  | .flt _, h => by cases h
  | .ref _, h => by cases h
  | .ty _, h => by cases h
theorem dp_all {K : PySem.W.Frag} {H : Hp} : ∀ {r : List V}, r.all flat4 = true → DpAll K H r (r.map pdV)
  | [], _ => .nil
  | v :: r, h => by
    have := Bool.and_eq_true_iff.mp (show (flat4 v && r.all flat4) = true from h)
    exact .cons (dp_flat this.1) (dp_all this.2)
def pdR (rows : List (List V)) : PyData := .list (rows.map fun r => .tuple (r.map pdV))
theorem LT.dp {K : PySem.W.Frag} {H : Hp} {a : Addr} {rows : List (List V)} (h : LT H a rows) (hf : ∀ r ∈ rows, r.all flat4 = true) : Dp K H (.ref a) (pdR rows) := by
  obtain ⟨xs, h1, h2⟩ := h
  refine .lst (SqL.h h1) ?_
  clear h1
  induction h2 with
  | nil => exact .nil
  | @cons x r xs' rows' q t ih =>
    obtain ⟨t0, rfl, ht⟩ := q
    exact .cons (.tup (SqT.h ht) (dp_all (hf r List.mem_cons_self))) (ih fun z hz => hf z (List.mem_cons_of_mem _ hz))
end Sl

end
section
set_option Elab.async false
set_option linter.all false
set_option maxRecDepth 100000
set_option maxHeartbeats 2000000
namespace Sl
open PySem PySem.Spec PyProof.Rows L2
/-! ### numbers from 0 on, of a bounded size -/
section
variable {X : Cx}
/-- two numbers from 0 on, what is asked of them, what comes of them -/
def rN (C : Nat → Nat → Prop) (g : Nat → Nat → V) : R2 := fun x y H Q => ∃ n m : Nat, x = .int (n : Int) ∧ y = .int (m : Int) ∧ C n m ∧ Q (g n m) H
def rN0 (g : Nat → Nat → V) : R2 := fun x y H Q => ∃ n m : Nat, x = .int (n : Int) ∧ y = .int (m : Int) ∧ Q (g n m) H
theorem opN_of {f : Value → Value → Sem Value} {C : Int → Int → Prop} {g : Int → Int → V} (h : OpR X f (rI C g)) {D : Nat → Nat → Prop} {k : Nat → Nat → V} (h1 : ∀ n m, D n m → C (n : Int) (m : Int)) (h2 : ∀ n m, D n m → g (n : Int) (m : Int) = k n m) : OpR X f (rN D k) := by
  intro pins s σ H x y v u Q I rx ry q
  obtain ⟨n, m, rfl, rfl, d, q⟩ := q
  exact h pins s σ H _ _ v u Q I rx ry ⟨n, m, rfl, rfl, h1 n m d, by rw [h2 n m d]; exact q⟩
theorem opN0_of {f : Value → Value → Sem Value} {g : Int → Int → V} (h : OpR X f (rI0 g)) {k : Nat → Nat → V} (h2 : ∀ n m : Nat, g (n : Int) (m : Int) = k n m) : OpR X f (rN0 k) := by
  intro pins s σ H x y v u Q I rx ry q
  obtain ⟨n, m, rfl, rfl, q⟩ := q
  exact h pins s σ H _ _ v u Q I rx ry ⟨n, m, rfl, rfl, by rw [h2 n m]; exact q⟩
abbrev vN (n : Nat) : V := .int (n : Int)
theorem oAdd : OpR X (binaryOp .Add) (rN0 fun n m => vN (n + m)) := opN0_of op_add fun n m => rfl
theorem oSub : OpR X (binaryOp .Sub) (rN (fun n m => m ≤ n) fun n m => vN (n - m)) := by
  intro pins s σ H x y v u Q I rx ry q
  obtain ⟨n, m, rfl, rfl, d, q⟩ := q
  exact op_sub pins s σ H _ _ v u Q I rx ry ⟨n, m, rfl, rfl, by show Q (.int ((n : Int) - (m : Int))) H; rw [show ((n : Int) - (m : Int)) = ((n - m : Nat) : Int) by omega]; exact q⟩
theorem lt_na {n b : Nat} (h : n < 2 ^ b) : (n : Int).natAbs < 2 ^ b := by rw [Int.natAbs_natCast]; exact h
theorem oMul : OpR X (binaryOp .Mult) (rN (fun n m => n < 2 ^ 400 ∧ m < 2 ^ 400) fun n m => vN (n * m)) :=
  opN_of op_mulW (fun n m h => wide_mul (lt_na h.1) (lt_na h.2) (by decide) (by decide) (by decide)) fun n m _ => by show V.int ((n : Int) * (m : Int)) = V.int ((n * m : Nat) : Int); rw [Int.natCast_mul]
theorem cdiv {n m : Nat} (h : 0 < m ∧ m < 2 ^ 400) : CDivW (n : Int) (m : Int) := wide_div (by omega) (lt_na h.2) (by decide) (by decide)
theorem oDiv : OpR X (binaryOp .FloorDiv) (rN (fun n m => 0 < m ∧ m < 2 ^ 400) fun n m => vN (n / m)) := opN_of op_fdivW (fun n m h => cdiv h) fun n m _ => rfl
theorem oMod : OpR X (binaryOp .Mod) (rN (fun n m => 0 < m) fun n m => vN (n % m)) := opN_of op_mod (fun n m (h : 0 < m) => (by omega : (0 : Int) < (m : Int))) fun n m _ => rfl
theorem pow_cast (k : Nat) : ((2 ^ k : Nat) : Int) = 2 ^ k := by rw [Int.natCast_pow]; rfl
theorem oShl : OpR X (binaryOp .LShift) (rN (fun n k => n < 2 ^ 400 ∧ k ≤ 1000) fun n k => vN (n * 2 ^ k)) :=
  opN_of op_shlW (fun n k h => shl_ok (lt_na h.1) (by omega)) fun n k _ => by show V.int ((n : Int) * 2 ^ ((k : Int).toNat)) = V.int ((n * 2 ^ k : Nat) : Int); rw [Int.toNat_natCast, Int.natCast_mul, pow_cast]
theorem oShr : OpR X (binaryOp .RShift) (rN0 fun n k => vN (n / 2 ^ k)) := by
  intro pins s σ H x y v u Q I rx ry q
  obtain ⟨n, k, rfl, rfl, q⟩ := q
  exact op_shr pins s σ H _ _ v u Q I rx ry ⟨n, k, rfl, rfl, Int.natCast_nonneg k, by show Q (.int ((n : Int) / 2 ^ ((k : Int).toNat))) H; rw [Int.toNat_natCast, ← pow_cast, ← Int.natCast_ediv]; exact q⟩
theorem oLt : OpR X (compareOp .Lt) (rN0 fun n m => .bl (decide (n < m))) := opN0_of op_lt fun n m => by rw [decide_eq_decide.mpr (show (n : Int) < m ↔ n < m by omega)]
theorem oLe : OpR X (compareOp .LtE) (rN0 fun n m => .bl (decide (n ≤ m))) := opN0_of op_le fun n m => by rw [decide_eq_decide.mpr (show (n : Int) ≤ m ↔ n ≤ m by omega)]
theorem oGt : OpR X (compareOp .Gt) (rN0 fun n m => .bl (decide (m < n))) := opN0_of op_gt fun n m => by rw [decide_eq_decide.mpr (show (m : Int) < n ↔ m < n by omega)]
theorem oGe : OpR X (compareOp .GtE) (rN0 fun n m => .bl (decide (m ≤ n))) := opN0_of op_ge fun n m => by rw [decide_eq_decide.mpr (show (m : Int) ≤ n ↔ m ≤ n by omega)]
theorem vN_inj {n m : Nat} : (vN n = vN m) ↔ n = m := ⟨fun h => by injection h with h; omega, fun h => by rw [h]⟩
theorem oEq : OpR X (compareOp .Eq) (rN0 fun n m => .bl (decide (n = m))) := by
  intro pins s σ H x y v u Q I rx ry q
  obtain ⟨n, m, rfl, rfl, q⟩ := q
  exact op_eq pins s σ H _ _ v u Q I rx ry ⟨rfl, by rw [decide_eq_decide.mpr (vN_inj (n := n) (m := m))]; exact q⟩
theorem oNe : OpR X (compareOp .NotEq) (rN0 fun n m => .bl (!decide (n = m))) := by
  intro pins s σ H x y v u Q I rx ry q
  obtain ⟨n, m, rfl, rfl, q⟩ := q
  exact op_ne pins s σ H _ _ v u Q I rx ry ⟨rfl, by rw [decide_eq_decide.mpr (vN_inj (n := n) (m := m))]; exact q⟩
/-- two texts -/
def rS (g : Sy → Sy → Bool) : R2 := fun x y H Q => ∃ a b : Sy, x = .str a ∧ y = .str b ∧ Q (.bl (g a b)) H
theorem vS_inj {a b : Sy} : (V.str a = V.str b) ↔ a = b := ⟨fun h => by injection h, fun h => by rw [h]⟩
theorem oEqS : OpR X (compareOp .Eq) (rS fun a b => decide (a = b)) := by
  intro pins s σ H x y v u Q I rx ry q
  obtain ⟨a, b, rfl, rfl, q⟩ := q
  exact op_eq pins s σ H _ _ v u Q I rx ry ⟨rfl, by rw [decide_eq_decide.mpr (vS_inj (a := a) (b := b))]; exact q⟩
theorem oNeS : OpR X (compareOp .NotEq) (rS fun a b => !decide (a = b)) := by
  intro pins s σ H x y v u Q I rx ry q
  obtain ⟨a, b, rfl, rfl, q⟩ := q
  exact op_ne pins s σ H _ _ v u Q I rx ry ⟨rfl, by rw [decide_eq_decide.mpr (vS_inj (a := a) (b := b))]; exact q⟩
/-- in place -/
theorem iAdd : PIp X .Add (fun x y H Q => ∃ n m : Nat, x = .int (n : Int) ∧ y = .int (m : Int) ∧ Q (vN (n + m)) H) := by
  intro pins s σ H x y v u Q I rx ry q
  obtain ⟨n, m, rfl, rfl, q⟩ := q
  exact ip_add pins s σ H _ _ v u Q I rx ry ⟨n, m, rfl, rfl, q⟩
theorem iSub : PIp X .Sub (fun x y H Q => ∃ n m : Nat, x = .int (n : Int) ∧ y = .int (m : Int) ∧ m ≤ n ∧ Q (vN (n - m)) H) := by
  intro pins s σ H x y v u Q I rx ry q
  obtain ⟨n, m, rfl, rfl, d, q⟩ := q
  exact ip_sub pins s σ H _ _ v u Q I rx ry ⟨n, m, rfl, rfl, by show Q (.int ((n : Int) - (m : Int))) H; rw [show ((n : Int) - (m : Int)) = ((n - m : Nat) : Int) by omega]; exact q⟩
theorem iMul : PIp X .Mult (fun x y H Q => ∃ n m : Nat, x = .int (n : Int) ∧ y = .int (m : Int) ∧ (n < 2 ^ 400 ∧ m < 2 ^ 400) ∧ Q (vN (n * m)) H) := by
  intro pins s σ H x y v u Q I rx ry q
  obtain ⟨n, m, rfl, rfl, d, q⟩ := q
  obtain ⟨t, rfl⟩ := rx
  obtain ⟨t', rfl⟩ := ry
  refine imul_int ⟨.int _, H, I.tok _, ⟨_, rfl⟩, ?_⟩ (CMulW.ok (wide_mul (lt_na d.1) (lt_na d.2) (by decide) (by decide) (by decide)))
  rw [← Int.natCast_mul]; exact q
theorem iDiv : PIp X .FloorDiv (fun x y H Q => ∃ n m : Nat, x = .int (n : Int) ∧ y = .int (m : Int) ∧ (0 < m ∧ m < 2 ^ 400) ∧ Q (vN (n / m)) H) := by
  intro pins s σ H x y v u Q I rx ry q
  obtain ⟨n, m, rfl, rfl, d, q⟩ := q
  exact iop_fdivW pins s σ H _ _ v u Q I rx ry ⟨n, m, rfl, rfl, cdiv d, q⟩
end
/-! ### names of the module -/
section
variable {X : Cx} {x : Str} {pos : Pos}
theorem pe_gs {z : Str} (h : ∃ t, X.mg x = some (.str z t)) (hg : Gl X x := by rfl) (hd : (x == ("__debug__" : Str)) = false := by decide) : PE X (.Name x pos) (tC (.str z)) := by
  obtain ⟨t, h⟩ := h
  exact pe_glob hg h ⟨t, rfl⟩ hd
theorem pe_gi {z : Int} (h : ∃ t, X.mg x = some (.int z t)) (hg : Gl X x := by rfl) (hd : (x == ("__debug__" : Str)) = false := by decide) : PE X (.Name x pos) (tC (.int z)) := by
  obtain ⟨t, h⟩ := h
  exact pe_glob hg h ⟨t, rfl⟩ hd
theorem pe_gr {a : Addr} (h : X.mg x = some (.ref a)) (hg : Gl X x := by rfl) (hd : (x == ("__debug__" : Str)) = false := by decide) : PE X (.Name x pos) (tC (.ref a)) := pe_glob hg h rfl hd
theorem pe_ty {n : String} (h : X.mg x = none) (hv : bootBuiltins x = some (.type n)) (hg : Gl X x := by rfl) (hn : x ≠ "__name__" := by decide) (hd : (x == ("__debug__" : Str)) = false := by decide) : PE X (.Name x pos) (tC (.ty n)) := pe_bltn hg h hv rfl hn hd
end
theorem bt_all : bootBuiltins "all" = some (.builtin "all") := by decide +kernel
theorem bt_any : bootBuiltins "any" = some (.builtin "any") := by decide +kernel
theorem bt_len : bootBuiltins "len" = some (.builtin "len") := by decide +kernel
theorem bt_isinstance : bootBuiltins "isinstance" = some (.builtin "isinstance") := by decide +kernel
theorem bt_int : bootBuiltins "int" = some (.type "int") := by decide +kernel
theorem bt_str : bootBuiltins "str" = some (.type "str") := by decide +kernel
theorem bt_bool : bootBuiltins "bool" = some (.type "bool") := by decide +kernel
theorem bt_list : bootBuiltins "list" = some (.type "list") := by decide +kernel
theorem bt_tuple : bootBuiltins "tuple" = some (.type "tuple") := by decide +kernel
theorem bt_sum : bootBuiltins "sum" = some (.builtin "sum") := by decide +kernel
theorem bt_max : bootBuiltins "max" = some (.builtin "max") := by decide +kernel
theorem bt_min : bootBuiltins "min" = some (.builtin "min") := by decide +kernel
theorem bt_ord : bootBuiltins "ord" = some (.builtin "ord") := by decide +kernel
theorem bt_abs : bootBuiltins "abs" = some (.builtin "abs") := by decide +kernel
theorem bt_divmod : bootBuiltins "divmod" = some (.builtin "divmod") := by decide +kernel
theorem bt_sorted : bootBuiltins "sorted" = some (.builtin "sorted") := by decide +kernel
end Sl

end
section
set_option Elab.async false
set_option linter.all false
set_option maxRecDepth 100000
set_option maxHeartbeats 2000000
namespace Sl
open PySem PySem.Spec PyProof.Rows L2
/-! ### == of data made of numbers and texts -/
def okV : V → Bool
  | .non => true
  | .bl _ => true
  | .int _ => true
  | .str x => PyData.strOk x
  | _ => false
/-- numbers and texts alone -/
def nsV : V → Bool
  | .int _ => true
  | .str x => PyData.strOk x
  | _ => false
theorem okV_of_ns {v : V} (h : nsV v = true) : okV v = true := by
  cases v <;> first | rfl | exact h | cases h
theorem flat_of_ok {v : V} (h : okV v = true) : flat4 v = true := by
  cases v <;> first | rfl | cases h
theorem all_imp {f g : V → Bool} (h : ∀ v, f v = true → g v = true) {r : List V} (hr : r.all f = true) : r.all g = true :=
  List.all_eq_true.mpr fun v hv => h v (List.all_eq_true.mp hr v hv)
theorem can_pd : ∀ {v : V}, okV v = true → (pdV v).canLay0 = true
  | .non, _ => rfl
  | .bl _, _ => rfl
  | .int _, _ => rfl
  | .str x, h => h
  | .byt _, h => by cases h
  | .flt _, h => by cases h
  | .ref _, h => by cases h
  | .ty _, h => by cases h
theorem can_all : ∀ {r : List V}, r.all okV = true → PyData.canLayAll0 (r.map pdV) = true
  | [], _ => rfl
  | v :: r, h => by
    have := Bool.and_eq_true_iff.mp (show (okV v && r.all okV) = true from h)
    show ((pdV v).canLay0 && PyData.canLayAll0 (r.map pdV)) = true
    rw [can_pd this.1, can_all this.2]; rfl
theorem dep_pd (v : V) : (pdV v).depth = 0 := by cases v <;> rfl
theorem dep_all : ∀ r : List V, PyData.depthAll (r.map pdV) = 0
  | [] => rfl
  | v :: r => by
    show max (pdV v).depth (PyData.depthAll (r.map pdV)) = 0
    rw [dep_pd, dep_all r]; rfl
theorem shaped_tup {r : List V} (h : r.all okV = true) : SeqAt.shaped (.tuple (r.map pdV)) = true := by
  show (PyData.canLayAll0 (r.map pdV) && decide (PyData.depthAll (r.map pdV) + 1 ≤ 64)) = true
  rw [can_all h, dep_all]; rfl
theorem shaped_lst {r : List V} (h : r.all okV = true) : SeqAt.shaped (.list (r.map pdV)) = true := by
  show (PyData.canLayAll0 (r.map pdV) && decide (PyData.depthAll (r.map pdV) + 1 ≤ 64)) = true
  rw [can_all h, dep_all]; rfl
theorem can_rows : ∀ {rows : List (List V)}, (∀ r ∈ rows, r.all okV = true) → PyData.canLayAll0 (rows.map fun r => .tuple (r.map pdV)) = true ∧ PyData.depthAll (rows.map fun r => .tuple (r.map pdV)) ≤ 1
  | [], _ => ⟨rfl, Nat.zero_le _⟩
  | r :: rows, h => by
    obtain ⟨i1, i2⟩ := can_rows (rows := rows) fun z hz => h z (List.mem_cons_of_mem _ hz)
    refine ⟨?_, ?_⟩
    · show (PyData.canLayAll0 (r.map pdV) && PyData.canLayAll0 (rows.map fun r => .tuple (r.map pdV))) = true
      rw [can_all (h r List.mem_cons_self), i1]; rfl
    · show max (PyData.depthAll (r.map pdV) + 1) (PyData.depthAll (rows.map fun r => .tuple (r.map pdV))) ≤ 1
      rw [dep_all]
      omega
theorem shaped_rows {rows : List (List V)} (h : ∀ r ∈ rows, r.all okV = true) : SeqAt.shaped (pdR rows) = true := by
  obtain ⟨i1, i2⟩ := can_rows h
  show (PyData.canLayAll0 (rows.map fun r => .tuple (r.map pdV)) && decide (PyData.depthAll (rows.map fun r => .tuple (r.map pdV)) + 1 ≤ 64)) = true
  rw [i1, decide_eq_true (by omega)]; rfl
theorem eqv_ns : ∀ {a b : V}, nsV a = true → nsV b = true → PyData.eqv (pdV a) (pdV b) = decide (a = b)
  | .int i, .int j, _, _ => by
    show (i == j) = _
    rw [Bool.beq_eq_decide_eq]
    exact decide_eq_decide.mpr ⟨fun h => by rw [h], fun h => by injection h⟩
  | .int i, .str y, _, _ => (decide_eq_false (fun h => by cases h)).symm
  | .str x, .int j, _, _ => (decide_eq_false (fun h => by cases h)).symm
  | .str x, .str y, _, _ => by
    show (x == y) = _
    rw [Bool.beq_eq_decide_eq]
    exact decide_eq_decide.mpr ⟨fun h => by rw [h], fun h => by injection h⟩
  | .non, _, h, _ => by cases h
  | .bl _, _, h, _ => by cases h
  | .byt _, _, h, _ => by cases h
  | .flt _, _, h, _ => by cases h
  | .ref _, _, h, _ => by cases h
  | .ty _, _, h, _ => by cases h
  | .int _, .non, _, h => by cases h
  | .int _, .bl _, _, h => by cases h
  | .int _, .byt _, _, h => by cases h
  | .int _, .flt _, _, h => by cases h
  | .int _, .ref _, _, h => by cases h
  | .int _, .ty _, _, h => by cases h
  | .str _, .non, _, h => by cases h
  | .str _, .bl _, _, h => by cases h
  | .str _, .byt _, _, h => by cases h
  | .str _, .flt _, _, h => by cases h
  | .str _, .ref _, _, h => by cases h
  | .str _, .ty _, _, h => by cases h
theorem dec_and {p q r : Prop} [Decidable p] [Decidable q] [Decidable r] (h : r ↔ p ∧ q) : (decide p && decide q) = decide r := by
  rw [← Bool.decide_and]
  exact decide_eq_decide.mpr h.symm
theorem eqv_all : ∀ {a b : List V}, a.all nsV = true → b.all nsV = true → PyData.eqvAll (a.map pdV) (b.map pdV) = decide (a = b)
  | [], [], _, _ => rfl
  | [], _ :: _, _, _ => (decide_eq_false (fun h => by cases h)).symm
  | _ :: _, [], _, _ => (decide_eq_false (fun h => by cases h)).symm
  | x :: a, y :: b, ha, hb => by
    have h1 := Bool.and_eq_true_iff.mp (show (nsV x && a.all nsV) = true from ha)
    have h2 := Bool.and_eq_true_iff.mp (show (nsV y && b.all nsV) = true from hb)
    show (PyData.eqv (pdV x) (pdV y) && PyData.eqvAll (a.map pdV) (b.map pdV)) = _
    rw [eqv_ns h1.1 h2.1, eqv_all h1.2 h2.2]
    exact dec_and ⟨fun h => by injection h with h1 h2; exact ⟨h1, h2⟩, fun h => by rw [h.1, h.2]⟩
theorem eqv_rows : ∀ {a b : List (List V)}, (∀ r ∈ a, r.all nsV = true) → (∀ r ∈ b, r.all nsV = true) → PyData.eqvAll (a.map fun r => .tuple (r.map pdV)) (b.map fun r => .tuple (r.map pdV)) = decide (a = b)
  | [], [], _, _ => rfl
  | [], _ :: _, _, _ => (decide_eq_false (fun h => by cases h)).symm
  | _ :: _, [], _, _ => (decide_eq_false (fun h => by cases h)).symm
  | x :: a, y :: b, ha, hb => by
    show (PyData.eqvAll (x.map pdV) (y.map pdV) && PyData.eqvAll (a.map fun r => .tuple (r.map pdV)) (b.map fun r => .tuple (r.map pdV))) = _
    rw [eqv_all (ha x List.mem_cons_self) (hb y List.mem_cons_self), eqv_rows (fun r hr => ha r (List.mem_cons_of_mem _ hr)) (fun r hr => hb r (List.mem_cons_of_mem _ hr))]
    exact dec_and ⟨fun h => by injection h with h1 h2; exact ⟨h1, h2⟩, fun h => by rw [h.1, h.2]⟩
section
variable {K : PySem.W.Frag} {H : Hp} {Q : VK} {a b : Addr}
theorem LT.dpo {rows : List (List V)} (h : LT H a rows) (hf : ∀ r ∈ rows, r.all okV = true) : Dp K H (.ref a) (pdR rows) := h.dp fun r hr => all_imp (fun _ => flat_of_ok) (hf r hr)
theorem tup_dp {r : List V} (h : H a = some (.tup r)) (hf : r.all okV = true) : Dp K H (.ref a) (.tuple (r.map pdV)) := .tup (SqT.h h) (dp_all (all_imp (fun _ => flat_of_ok) hf))
theorem lst_dp {r : List V} (h : H a = some (.lst r)) (hf : r.all okV = true) : Dp K H (.ref a) (.list (r.map pdV)) := .lst (SqL.h h) (dp_all (all_imp (fun _ => flat_of_ok) hf))
/-- two lists of tuples -/
theorem q_eqR {ra rb : List (List V)} (ha : LT H a ra) (hb : LT H b rb) (na : ∀ r ∈ ra, r.all nsV = true) (nb : ∀ r ∈ rb, r.all nsV = true) (q : Q (.bl (decide (ra = rb))) H) : rEqD K (.ref a) (.ref b) H Q :=
  ⟨_, _, ha.dpo fun r hr => all_imp (fun _ => okV_of_ns) (na r hr), hb.dpo fun r hr => all_imp (fun _ => okV_of_ns) (nb r hr), shaped_rows fun r hr => all_imp (fun _ => okV_of_ns) (na r hr), shaped_rows fun r hr => all_imp (fun _ => okV_of_ns) (nb r hr), by
    show Q (.bl (PyData.eqvAll _ _)) H
    rw [eqv_rows na nb]; exact q⟩
theorem q_neR {ra rb : List (List V)} (ha : LT H a ra) (hb : LT H b rb) (na : ∀ r ∈ ra, r.all nsV = true) (nb : ∀ r ∈ rb, r.all nsV = true) (q : Q (.bl (!decide (ra = rb))) H) : rNeD K (.ref a) (.ref b) H Q :=
  ⟨_, _, ha.dpo fun r hr => all_imp (fun _ => okV_of_ns) (na r hr), hb.dpo fun r hr => all_imp (fun _ => okV_of_ns) (nb r hr), shaped_rows fun r hr => all_imp (fun _ => okV_of_ns) (na r hr), shaped_rows fun r hr => all_imp (fun _ => okV_of_ns) (nb r hr), by
    show Q (.bl (!PyData.eqvAll _ _)) H
    rw [eqv_rows na nb]; exact q⟩
/-- xs != [] -/
theorem q_neE {ra : List (List V)} (ha : LT H a ra) (hb : H b = some (.lst [])) (na : ∀ r ∈ ra, r.all okV = true) (q : Q (.bl (!ra.isEmpty)) H) : rNeD K (.ref a) (.ref b) H Q :=
  ⟨_, _, ha.dpo na, (LT.nil hb).dpo (fun r hr => nomatch hr), shaped_rows na, shaped_rows (fun r hr => nomatch hr), by
    show Q (.bl (!PyData.eqvAll (ra.map fun r => .tuple (r.map pdV)) [])) H
    cases ra with
    | nil => exact q
    | cons r rs => exact q⟩
theorem q_eqE {ra : List (List V)} (ha : LT H a ra) (hb : H b = some (.lst [])) (na : ∀ r ∈ ra, r.all okV = true) (q : Q (.bl ra.isEmpty) H) : rEqD K (.ref a) (.ref b) H Q :=
  ⟨_, _, ha.dpo na, (LT.nil hb).dpo (fun r hr => nomatch hr), shaped_rows na, shaped_rows (fun r hr => nomatch hr), by
    show Q (.bl (PyData.eqvAll (ra.map fun r => .tuple (r.map pdV)) [])) H
    cases ra with
    | nil => exact q
    | cons r rs => exact q⟩
/-- two tuples -/
theorem q_eqT {r s : List V} (ha : H a = some (.tup r)) (hb : H b = some (.tup s)) (na : r.all nsV = true) (nb : s.all nsV = true) (q : Q (.bl (decide (r = s))) H) : rEqD K (.ref a) (.ref b) H Q :=
  ⟨_, _, tup_dp ha (all_imp (fun _ => okV_of_ns) na), tup_dp hb (all_imp (fun _ => okV_of_ns) nb), shaped_tup (all_imp (fun _ => okV_of_ns) na), shaped_tup (all_imp (fun _ => okV_of_ns) nb), by
    show Q (.bl (PyData.eqvAll _ _)) H
    rw [eqv_all na nb]; exact q⟩
theorem q_neT {r s : List V} (ha : H a = some (.tup r)) (hb : H b = some (.tup s)) (na : r.all nsV = true) (nb : s.all nsV = true) (q : Q (.bl (!decide (r = s))) H) : rNeD K (.ref a) (.ref b) H Q :=
  ⟨_, _, tup_dp ha (all_imp (fun _ => okV_of_ns) na), tup_dp hb (all_imp (fun _ => okV_of_ns) nb), shaped_tup (all_imp (fun _ => okV_of_ns) na), shaped_tup (all_imp (fun _ => okV_of_ns) nb), by
    show Q (.bl (!PyData.eqvAll _ _)) H
    rw [eqv_all na nb]; exact q⟩
/-- two lists of numbers and texts -/
theorem q_eqL {r s : List V} (ha : H a = some (.lst r)) (hb : H b = some (.lst s)) (na : r.all nsV = true) (nb : s.all nsV = true) (q : Q (.bl (decide (r = s))) H) : rEqD K (.ref a) (.ref b) H Q :=
  ⟨_, _, lst_dp ha (all_imp (fun _ => okV_of_ns) na), lst_dp hb (all_imp (fun _ => okV_of_ns) nb), shaped_lst (all_imp (fun _ => okV_of_ns) na), shaped_lst (all_imp (fun _ => okV_of_ns) nb), by
    show Q (.bl (PyData.eqvAll _ _)) H
    rw [eqv_all na nb]; exact q⟩
theorem q_neL {r s : List V} (ha : H a = some (.lst r)) (hb : H b = some (.lst s)) (na : r.all nsV = true) (nb : s.all nsV = true) (q : Q (.bl (!decide (r = s))) H) : rNeD K (.ref a) (.ref b) H Q :=
  ⟨_, _, lst_dp ha (all_imp (fun _ => okV_of_ns) na), lst_dp hb (all_imp (fun _ => okV_of_ns) nb), shaped_lst (all_imp (fun _ => okV_of_ns) na), shaped_lst (all_imp (fun _ => okV_of_ns) nb), by
    show Q (.bl (!PyData.eqvAll _ _)) H
    rw [eqv_all na nb]; exact q⟩
end
/-! ### the symbols that the law uses -/
def sa : Sy := ⟨#[97]⟩
def sb : Sy := ⟨#[98]⟩
def Sym (s : Sy) : Prop := s = sB ∨ s = sQ ∨ s = sa ∨ s = sb
theorem sym_ok {s : Sy} (h : Sym s) : PyData.strOk s = true := by
  rcases h with rfl | rfl | rfl | rfl <;> decide +kernel
theorem sym_nsV {s : Sy} (h : Sym s) : nsV (.str s) = true := sym_ok h
/-! ### the data of the program as rows -/
def enR (rs : List (Sy × Nat)) : List (List V) := rs.map fun x => [.str x.1, vN x.2]
def enB (bs : List (Ch × Nat)) : List (List V) := bs.map fun x => [.str x.1.1, vN x.1.2, vN x.2]
theorem enR_app (a b : List (Sy × Nat)) : enR (a ++ b) = enR a ++ enR b := List.map_append
theorem enB_app (a b : List (Ch × Nat)) : enB (a ++ b) = enB a ++ enB b := List.map_append
theorem enR_ns {rs : List (Sy × Nat)} (h : ∀ x ∈ rs, Sym x.1) : ∀ r ∈ enR rs, r.all nsV = true := fun r hr => by
  obtain ⟨x, hx, rfl⟩ := List.mem_map.mp hr
  show (nsV (.str x.1) && (true && true)) = true
  rw [sym_nsV (h x hx)]; rfl
theorem enB_ns {bs : List (Ch × Nat)} (h : ∀ x ∈ bs, Sym x.1.1) : ∀ r ∈ enB bs, r.all nsV = true := fun r hr => by
  obtain ⟨x, hx, rfl⟩ := List.mem_map.mp hr
  show (nsV (.str x.1.1) && (true && (true && true))) = true
  rw [sym_nsV (h x hx)]; rfl
theorem enR_len (rs : List (Sy × Nat)) : (enR rs).length = rs.length := List.length_map ..
theorem enB_len (bs : List (Ch × Nat)) : (enB bs).length = bs.length := List.length_map ..
end Sl

end
section
set_option Elab.async false
set_option linter.all false
set_option maxRecDepth 100000
set_option maxHeartbeats 2000000
namespace Sl
open PySem PySem.Spec PyProof.Rows L2
/-! ### comprehensions that change nothing -/
/-- what one turn gives: a row, or nothing -/
def TurnR (f : Option (List V)) (H : Hp) (Qc : V → Hp → Prop) (Qn : Hp → Prop) : Prop := match f with
  | some r => ∀ v H', Same H H' → RowV H' v r → Qc v H'
  | none => ∀ H', Same H H' → Qn H'
def TurnF (f : Option V) (H : Hp) (Qc : V → Hp → Prop) (Qn : Hp → Prop) : Prop := match f with
  | some v => ∀ H', Same H H' → Qc v H'
  | none => ∀ H', Same H H' → Qn H'
theorem range_fm {α : Type} (f : Nat → Option α) (i : Nat) : (List.range (i + 1)).filterMap f = (List.range i).filterMap f ++ (f i).toList := by
  rw [List.range_succ, List.filterMap_append]
  congr 1
theorem fm_len {α : Type} (f : Nat → Option α) (i : Nat) : ((List.range i).filterMap f).length ≤ i := by
  have := List.length_filterMap_le f (List.range i)
  rwa [List.length_range] at this
section
variable {g : TG} {tt : TT} {te : TE} {vs : List Nat} {σ : L2.St} {H1 : Hp} {D : Addr} {J : It} {n : Nat} {Qd : Hp → Prop}
/-- the evaluation of one turn: the target, the test, the element -/
def El (g : TG) (tt : TT) (te : TE) (vs : List Nat) (σ : L2.St) (x : V) (H : Hp) (Qc : V → Hp → Prop) (Qn : Hp → Prop) : Prop :=
  g x (wipe σ vs) H fun σ2 H2 => wipe σ2 vs = wipe σ vs ∧ tt σ2 H2 fun b H3 => if b = true then te σ2 H3 Qc else Qn H3
theorem lc_rows (f : Nat → Option (List V)) (hn : n ≤ 1000000) (nD : H1 D = none) (hgo : ∀ i H, i < n → Same H1 H → J.go i H) (hst : ∀ H, Same H1 H → J.stop n H)
    (hel : ∀ i x H H', i < n → Same H1 H → J.yld i H x H' → Same H H' ∧ ∀ Qc Qn, TurnR (f i) H' Qc Qn → El g tt te vs σ x H' Qc Qn)
    (hd : ∀ H, Same H1 H → LT H D ((List.range n).filterMap f) → Qd H) :
    ∃ W : Nat → Nat → Hp → Prop, (∃ m, W 0 m (upd H1 D (.lst []))) ∧ ∀ i m H, W i m H →
      (J.stop i H ∧ Qd H) ∨ (J.go i H ∧ ∃ Nx : Hp → Prop, (∀ H', Nx H' → ∃ m', m' < m ∧ W (i + 1) m' H') ∧ ∀ x H', J.yld i H x H' → g x (wipe σ vs) H' fun σ2 H2 => wipe σ2 vs = wipe σ vs ∧ tt σ2 H2 fun b H3 =>
        if b = true then te σ2 H3 fun y H4 => ∃ acc, H4 D = some (.lst acc) ∧ acc.length < sizeLine ∧ Nx (upd H4 D (.lst (acc ++ [y]))) else Nx H3) := by
  refine ⟨fun i m H => m = n - i ∧ i ≤ n ∧ Same H1 H ∧ LT H D ((List.range i).filterMap f), ⟨n, by simp, Nat.zero_le _, Same.new nD, LT.nil upd_same⟩, ?_⟩
  rintro i m H ⟨rfl, hi, s, l⟩
  by_cases hlt : i < n
  · refine .inr ⟨hgo i H hlt s, fun H' => Same H1 H' ∧ LT H' D ((List.range (i + 1)).filterMap f), fun H' p' => ⟨n - (i + 1), by omega, rfl, hlt, p'⟩, fun x H' y => ?_⟩
    obtain ⟨s1, ev⟩ := hel i x H H' hlt s y
    refine ev _ _ ?_
    have l1 := l.same s1
    have s2 := s.trans s1
    rw [range_fm]
    unfold TurnR
    cases e : f i with
    | none =>
      intro H2 s3
      refine ⟨s2.trans s3, ?_⟩
      show LT H2 D (_ ++ [])
      rw [List.append_nil]
      exact l1.same s3
    | some r =>
      rintro v H2 s3 ⟨t, rfl, ht⟩
      have l2 := l1.same s3
      obtain ⟨ys, hy, hlen⟩ := l2.lst
      refine ⟨ys, hy, ?_, Same.mut (s2.trans s3) nD, l2.push hy ht⟩
      rw [hlen]
      exact Nat.lt_of_le_of_lt (Nat.le_trans (fm_len f i) (by omega)) (slt (Nat.le_refl 1000000))
  · have e : i = n := by omega
    subst e
    exact .inl ⟨hst H s, hd H s l⟩
theorem lc_flat (f : Nat → Option V) (hn : n ≤ 1000000) (nD : H1 D = none) (hgo : ∀ i H, i < n → Same H1 H → J.go i H) (hst : ∀ H, Same H1 H → J.stop n H)
    (hel : ∀ i x H H', i < n → Same H1 H → J.yld i H x H' → Same H H' ∧ ∀ Qc Qn, TurnF (f i) H' Qc Qn → El g tt te vs σ x H' Qc Qn)
    (hd : ∀ H, Same H1 H → H D = some (.lst ((List.range n).filterMap f)) → Qd H) :
    ∃ W : Nat → Nat → Hp → Prop, (∃ m, W 0 m (upd H1 D (.lst []))) ∧ ∀ i m H, W i m H →
      (J.stop i H ∧ Qd H) ∨ (J.go i H ∧ ∃ Nx : Hp → Prop, (∀ H', Nx H' → ∃ m', m' < m ∧ W (i + 1) m' H') ∧ ∀ x H', J.yld i H x H' → g x (wipe σ vs) H' fun σ2 H2 => wipe σ2 vs = wipe σ vs ∧ tt σ2 H2 fun b H3 =>
        if b = true then te σ2 H3 fun y H4 => ∃ acc, H4 D = some (.lst acc) ∧ acc.length < sizeLine ∧ Nx (upd H4 D (.lst (acc ++ [y]))) else Nx H3) := by
  refine ⟨fun i m H => m = n - i ∧ i ≤ n ∧ Same H1 H ∧ H D = some (.lst ((List.range i).filterMap f)), ⟨n, by simp, Nat.zero_le _, Same.new nD, upd_same⟩, ?_⟩
  rintro i m H ⟨rfl, hi, s, l⟩
  by_cases hlt : i < n
  · refine .inr ⟨hgo i H hlt s, fun H' => Same H1 H' ∧ H' D = some (.lst ((List.range (i + 1)).filterMap f)), fun H' p' => ⟨n - (i + 1), by omega, rfl, hlt, p'⟩, fun x H' y => ?_⟩
    obtain ⟨s1, ev⟩ := hel i x H H' hlt s y
    refine ev _ _ ?_
    have l1 := s1 _ _ l
    have s2 := s.trans s1
    rw [range_fm]
    unfold TurnF
    cases e : f i with
    | none =>
      intro H2 s3
      refine ⟨s2.trans s3, ?_⟩
      show H2 D = some (.lst (_ ++ []))
      rw [List.append_nil]
      exact s3 _ _ l1
    | some v =>
      intro H2 s3
      refine ⟨_, s3 _ _ l1, ?_, Same.mut (s2.trans s3) nD, upd_same⟩
      exact Nat.lt_of_le_of_lt (Nat.le_trans (fm_len f i) (by omega)) (slt (Nat.le_refl 1000000))
  · have e : i = n := by omega
    subst e
    exact .inl ⟨hst H s, hd H s l⟩
variable {K : PySem.W.Frag} {a : Addr} {xs : List V}
theorem lcL_rows (f : Nat → Option (List V)) (hn : xs.length ≤ 1000000) (nD : H1 D = none) (hs : SqL K H1 a xs)
    (hel : ∀ i x H, xs[i]? = some x → Same H1 H → ∀ Qc Qn, TurnR (f i) H Qc Qn → El g tt te vs σ x H Qc Qn) (hd : ∀ H, Same H1 H → LT H D ((List.range xs.length).filterMap f) → Qd H) :
    ∃ W : Nat → Nat → Hp → Prop, (∃ m, W 0 m (upd H1 D (.lst []))) ∧ ∀ i m H, W i m H →
      ((Itl K a).stop i H ∧ Qd H) ∨ ((Itl K a).go i H ∧ ∃ Nx : Hp → Prop, (∀ H', Nx H' → ∃ m', m' < m ∧ W (i + 1) m' H') ∧ ∀ x H', (Itl K a).yld i H x H' → g x (wipe σ vs) H' fun σ2 H2 => wipe σ2 vs = wipe σ vs ∧ tt σ2 H2 fun b H3 =>
        if b = true then te σ2 H3 fun y H4 => ∃ acc, H4 D = some (.lst acc) ∧ acc.length < sizeLine ∧ Nx (upd H4 D (.lst (acc ++ [y]))) else Nx H3) :=
  lc_rows f hn nD (fun i H hi s => ⟨xs, xs[i], s.seq hs, by simp [hi]⟩) (fun H s => ⟨xs, s.seq hs, Nat.le_refl _⟩) (fun i x H H' hi s y => by
    obtain ⟨rfl, y⟩ := y
    exact ⟨Same.refl _, hel i x _ (y xs (s.seq hs)) s⟩) hd
theorem lcL_flat (f : Nat → Option V) (hn : xs.length ≤ 1000000) (nD : H1 D = none) (hs : SqL K H1 a xs)
    (hel : ∀ i x H, xs[i]? = some x → Same H1 H → ∀ Qc Qn, TurnF (f i) H Qc Qn → El g tt te vs σ x H Qc Qn) (hd : ∀ H, Same H1 H → H D = some (.lst ((List.range xs.length).filterMap f)) → Qd H) :
    ∃ W : Nat → Nat → Hp → Prop, (∃ m, W 0 m (upd H1 D (.lst []))) ∧ ∀ i m H, W i m H →
      ((Itl K a).stop i H ∧ Qd H) ∨ ((Itl K a).go i H ∧ ∃ Nx : Hp → Prop, (∀ H', Nx H' → ∃ m', m' < m ∧ W (i + 1) m' H') ∧ ∀ x H', (Itl K a).yld i H x H' → g x (wipe σ vs) H' fun σ2 H2 => wipe σ2 vs = wipe σ vs ∧ tt σ2 H2 fun b H3 =>
        if b = true then te σ2 H3 fun y H4 => ∃ acc, H4 D = some (.lst acc) ∧ acc.length < sizeLine ∧ Nx (upd H4 D (.lst (acc ++ [y]))) else Nx H3) :=
  lc_flat f hn nD (fun i H hi s => ⟨xs, xs[i], s.seq hs, by simp [hi]⟩) (fun H s => ⟨xs, s.seq hs, Nat.le_refl _⟩) (fun i x H H' hi s y => by
    obtain ⟨rfl, y⟩ := y
    exact ⟨Same.refl _, hel i x _ (y xs (s.seq hs)) s⟩) hd
theorem lcRg_flat {lo : Int} (f : Nat → Option V) (hn : n ≤ 1000000) (nD : H1 D = none)
    (hel : ∀ i H, i < n → Same H1 H → ∀ Qc Qn, TurnF (f i) H Qc Qn → El g tt te vs σ (.int (lo + i)) H Qc Qn) (hd : ∀ H, Same H1 H → H D = some (.lst ((List.range n).filterMap f)) → Qd H) :
    ∃ W : Nat → Nat → Hp → Prop, (∃ m, W 0 m (upd H1 D (.lst []))) ∧ ∀ i m H, W i m H →
      ((Itr lo n).stop i H ∧ Qd H) ∨ ((Itr lo n).go i H ∧ ∃ Nx : Hp → Prop, (∀ H', Nx H' → ∃ m', m' < m ∧ W (i + 1) m' H') ∧ ∀ x H', (Itr lo n).yld i H x H' → g x (wipe σ vs) H' fun σ2 H2 => wipe σ2 vs = wipe σ vs ∧ tt σ2 H2 fun b H3 =>
        if b = true then te σ2 H3 fun y H4 => ∃ acc, H4 D = some (.lst acc) ∧ acc.length < sizeLine ∧ Nx (upd H4 D (.lst (acc ++ [y]))) else Nx H3) :=
  lc_flat f hn nD (fun i H hi s => hi) (fun H s => Nat.le_refl _) (fun i x H H' hi s y => by
    obtain ⟨rfl, rfl⟩ := y
    exact ⟨Same.refl _, hel i _ hi s⟩) hd
theorem lcRc_rows {lo c : Int} (f : Nat → Option (List V)) (hn : n ≤ 1000000) (nD : H1 D = none)
    (hel : ∀ i H, i < n → Same H1 H → ∀ Qc Qn, TurnR (f i) H Qc Qn → El g tt te vs σ (.int (lo + i * c)) H Qc Qn) (hd : ∀ H, Same H1 H → LT H D ((List.range n).filterMap f) → Qd H) :
    ∃ W : Nat → Nat → Hp → Prop, (∃ m, W 0 m (upd H1 D (.lst []))) ∧ ∀ i m H, W i m H →
      ((Itc lo c n).stop i H ∧ Qd H) ∨ ((Itc lo c n).go i H ∧ ∃ Nx : Hp → Prop, (∀ H', Nx H' → ∃ m', m' < m ∧ W (i + 1) m' H') ∧ ∀ x H', (Itc lo c n).yld i H x H' → g x (wipe σ vs) H' fun σ2 H2 => wipe σ2 vs = wipe σ vs ∧ tt σ2 H2 fun b H3 =>
        if b = true then te σ2 H3 fun y H4 => ∃ acc, H4 D = some (.lst acc) ∧ acc.length < sizeLine ∧ Nx (upd H4 D (.lst (acc ++ [y]))) else Nx H3) :=
  lc_rows f hn nD (fun i H hi s => hi) (fun H s => Nat.le_refl _) (fun i x H H' hi s y => by
    obtain ⟨rfl, rfl⟩ := y
    exact ⟨Same.refl _, hel i _ hi s⟩) hd
end
/-- from places to items -/
theorem fm_rows {α β : Type} {rows : List α} {f : Nat → Option β} {k : α → Option β} (h : ∀ i r, rows[i]? = some r → f i = k r) : (List.range rows.length).filterMap f = rows.filterMap k := by
  induction rows using snoc_ind generalizing f with
  | h0 => rfl
  | h1 l a ih =>
    rw [List.length_append, List.length_singleton, range_fm, List.filterMap_append, ih fun i r hr => h i r (by
      rw [List.getElem?_append_left (List.getElem?_eq_some_iff.mp hr).1]; exact hr)]
    congr 1
    rw [h l.length a (by rw [List.getElem?_append_right (Nat.le_refl _)]; simp)]
    show _ = (match k a with | none => _ | some b => _)
    cases k a <;> rfl
theorem El.name {i : Nat} {te : TE} {σ : L2.St} {x : V} {H : Hp} {Qc : V → Hp → Prop} {Qn : Hp → Prop} (h : te ((wipe σ [i]).set i (some x)) H Qc) (hw : wipe ((wipe σ [i]).set i (some x)) [i] = wipe σ [i] := by rfl) : El (gName i) tYes te [i] σ x H Qc Qn :=
  ⟨hw, show (if true = true then te _ H Qc else Qn H) from iteT h⟩
end Sl

end
section
set_option Elab.async false
set_option linter.all false
set_option maxRecDepth 100000
set_option maxHeartbeats 4000000
namespace Sl
open PySem PySem.Spec PyProof.Rows L2
theorem kb_int : kitB "int" "int" = some true := by decide +kernel
theorem kb_ib : kitB "int" "bool" = some false := by decide +kernel
theorem kb_str : kitB "str" "str" = some true := by decide +kernel
theorem kb_ll : kitB "list" "list" = some true := by decide +kernel
theorem kb_tl : kitB "tuple" "list" = some false := by decide +kernel
theorem kb_tt : kitB "tuple" "tuple" = some true := by decide +kernel
theorem ka_l {K : PySem.W.Frag} : PySem.W.kitAny K (.type "list") [.type "list", .type "tuple"] = some true := by
  unfold PySem.W.kitAny
  rw [kit_ty kb_ll] <;> rfl
theorem ka_t {K : PySem.W.Frag} : PySem.W.kitAny K (.type "tuple") [.type "list", .type "tuple"] = some true := by
  unfold PySem.W.kitAny
  rw [kit_ty kb_tl]
  unfold PySem.W.kitAny
  rw [kit_ty kb_tt] <;> rfl
section
variable {P : Program} {w : World} {K : PySem.W.Frag} {mg : Str → Option Value} {base : Heap}
/-! ### is_integer -/
/-- the upper bound, or none -/
def hiV : Option Nat → V
  | none => .non
  | some h => vN h
def inB (n lo : Nat) : Option Nat → Bool
  | none => decide (lo ≤ n)
  | some h => decide (lo ≤ n) && decide (n ≤ h)
def sp_is_integer : Sp := fun vs H Q _ => ∃ (n lo : Nat) (hi : Option Nat), vs = [vN n, vN lo, hiV hi] ∧ Q (.bl (inB n lo hi)) H
abbrev n_is_integer : List Str := ["value", "low", "high"]
theorem sc_is_integer : FnScope n_is_integer ["value", "low", "high"] (defScope s_is_integer) := ⟨rfl, rfl, rfl, by decide +kernel, rfl, by decide +kernel, by decide +kernel⟩
theorem fn_is_integer (T : Txt K mg) {fd : FuncData} (F : FunD K d_is_integer.name d_is_integer.qual d_is_integer.params d_is_integer.body d_is_integer.scope (d_is_integer.dvs K) (d_is_integer.kws K) (He.fAd K d_is_integer.at_) fd) :
    FnOk P w K mg base CX0 1 (He.fAd K d_is_integer.at_) fd ["value", "low", "high"] sp_is_integer := by
  refine F.ok sc_is_integer (fun vs H Q E h => ?_) (fun cdv A outer s H vs Q E hr h => ?_)
  · obtain ⟨n, lo, hi, rfl, _⟩ := h
    rfl
  · obtain ⟨n, lo, hi, rfl, k⟩ := h
    refine ⟨_, PSs.nox (pss_cons (ps_if (PW.pt (pw_or (pt_not (pt_val (pe_callB call_isi (by rfl) (T.free 84) bt_isinstance (pa_cons (pv 0) (pa_cons (pe_ty (T.free 85) bt_int) pa_nil))))) (pw_or1 (pt_val (pe_callB call_isi (by rfl) (T.free 84) bt_isinstance (pa_cons (pv 0) (pa_cons (pe_ty (T.free 87) bt_bool) pa_nil)))))))
        (pss_one (ps_ret pe_bl))
        pss_nil)
      (pss_one (ps_ret (pe_and (pe_cmpR oLe (pv 1) (pv 0) (nomark _)) (pe_one (pe_or (pe_cmpR op_isN (pv 2) pe_non (nomark _)) (pe_one (pe_cmpR oLe (pv 0) (pv 2) (nomark _))))))))), ?_⟩
    refine ⟨_, rfl, _, _, _, _, true, rfl, .ty _, .base (.int _), kit_ty kb_int, true, rfl, ?_⟩
    refine iteF ⟨_, rfl, _, _, _, _, false, rfl, .ty _, .base (.int _), kit_ty kb_ib, false, rfl, ?_⟩
    refine iteF ?_
    refine ⟨_, rfl, _, rfl, lo, n, rfl, rfl, _, rfl, ?_⟩
    refine ite2 (fun c => ?_) (fun c => ?_)
    · have c' : lo ≤ n := of_decide_eq_true c
      refine ⟨_, rfl, rfl, _, rfl, ?_⟩
      cases hi with
      | none =>
        refine ite2 (fun _ => ?_) (fun z => absurd (decide_eq_true rfl) z)
        have e : inB n lo none = true := decide_eq_true c'
        rw [e] at k; exact k
      | some hh =>
        refine ite2 (fun z => absurd (of_decide_eq_true z) (by intro q; cases q)) (fun _ => ?_)
        refine ⟨_, rfl, _, rfl, n, hh, rfl, rfl, ?_⟩
        have e : inB n lo (some hh) = decide (n ≤ hh) := by show (decide (lo ≤ n) && decide (n ≤ hh)) = _; rw [decide_eq_true c']; rfl
        rw [e] at k; exact k
    · have c' : ¬ lo ≤ n := fun z => c (decide_eq_true z)
      have e : inB n lo hi = false := by
        cases hi with
        | none => exact decide_eq_false c'
        | some hh => show (decide (lo ≤ n) && decide (n ≤ hh)) = false; rw [decide_eq_false c']; rfl
      rw [e] at k; exact k
theorem ok_is_integer3 (T : Txt K mg) : Cl P w K mg base CX0 "is_integer" ["value", "low", "high"] 1 [] sp_is_integer := by
  obtain ⟨fd, F⟩ := T.def_ 1 (d := d_is_integer) rfl
  obtain ⟨ds, h1, h2⟩ := FunD.binds1 (ps := ["value", "low", "high"]) F 3 1 (List.cons_ne_nil _ _) rfl fun _ _ _ _ _ _ _ us its hl hi => match us, hl, its, hi with | [_, _, _], _, [_], _ => ⟨_, rfl, rfl⟩
  cases h1
  exact ⟨_, fd, _, T.glo 0, F.kp, h2, .nil, fn_is_integer T F⟩
theorem ok_is_integer2 (T : Txt K mg) : Cl P w K mg base CX0 "is_integer" ["value", "low", "high"] 1 [.non] sp_is_integer := by
  obtain ⟨fd, F⟩ := T.def_ 1 (d := d_is_integer) rfl
  obtain ⟨ds, h1, h2⟩ := FunD.binds1 (ps := ["value", "low", "high"]) F 2 0 (List.cons_ne_nil _ _) rfl fun _ _ _ _ _ _ _ us its hl hi => match us, hl, its, hi with | [_, _], _, [_], _ => ⟨_, rfl, rfl⟩
  exact ⟨_, fd, ds, T.glo 0, F.kp, h2, h1, fn_is_integer T F⟩
end
end Sl

end
section
set_option Elab.async false
set_option linter.all false
set_option maxRecDepth 100000
set_option maxHeartbeats 4000000
namespace Sl
open PySem PySem.Spec PyProof.Rows L2
theorem sym_len {s : Sy} (h : Sym s) : s.length = 1 := by rcases h with rfl | rfl | rfl | rfl <;> rfl
theorem sym_lo {s : Sy} (h : Sym s) : (!decide (s.cps.toList < (" " : Str).cps.toList)) = true := by rcases h with rfl | rfl | rfl | rfl <;> decide +kernel
theorem sym_hi {s : Sy} (h : Sym s) : (!decide (("~" : Str).cps.toList < s.cps.toList)) = true := by rcases h with rfl | rfl | rfl | rfl <;> decide +kernel
theorem sym_ord {s : Sy} (h : Sym s) : ¬ s.cps.getD 0 0 = 37 := by rcases h with rfl | rfl | rfl | rfl <;> decide +kernel
section
variable {P : Program} {w : World} {K : PySem.W.Frag} {mg : Str → Option Value} {base : Heap}
/-! ### is_symbol -/
def sp_is_symbol : Sp := fun vs H Q _ => ∃ s : Sy, vs = [.str s] ∧ Sym s ∧ Q (.bl true) H
abbrev n_is_symbol : List Str := ["value"]
theorem sc_is_symbol : FnScope n_is_symbol ["value"] (defScope s_is_symbol) := ⟨rfl, rfl, rfl, by decide +kernel, rfl, by decide +kernel, by decide +kernel⟩
theorem ok_is_symbol (T : Txt K mg) : Cl P w K mg base CX0 "is_symbol" ["value"] 1 [] sp_is_symbol := by
  obtain ⟨fd, F⟩ := T.def_ 2 (d := d_is_symbol) rfl
  refine cl_ok F (T.glo 1) (fun _ _ _ _ _ _ us hl => match us, hl with | [_], _ => rfl) sc_is_symbol (fun vs H Q E h => ?_) (fun cdv A outer s H vs Q E hr h => ?_)
  · obtain ⟨z, rfl, _⟩ := h
    rfl
  · obtain ⟨z, rfl, hs, k⟩ := h
    refine ⟨_, (pss_one (ps_ret (pe_and (pe_callB call_isi (by rfl) (T.free 84) bt_isinstance (pa_cons (pv 0) (pa_cons (pe_ty (T.free 86) bt_str) pa_nil))) (pe_and (pe_cmpR oEq (pe_callB call_len_str (by rfl) (T.free 83) bt_len (pa_cons (pv 0) pa_nil)) pe_int (nomark _)) (pe_and (pe_chain op_le_str op_le_str pe_str (pv 0) pe_str) (pe_one (pe_cmpR oNe (pe_callB call_ord (by rfl) (T.free 96) bt_ord (pa_cons (pv 0) pa_nil)) (pe_gi (T.int 101)) (nomark _)))))))), ?_⟩
    refine ⟨_, rfl, _, _, _, _, true, rfl, .ty _, .base (.str _), kit_ty kb_str, true, rfl, iteT ?_⟩
    refine ⟨_, rfl, z, rfl, (by rw [sym_len hs]; decide), z.length, 1, rfl, rfl, true, congrArg V.bl (decide_eq_true (sym_len hs)), iteT ?_⟩
    refine ⟨_, rfl, _, _, rfl, rfl, true, congrArg V.bl (sym_lo hs), iteT ⟨_, _, rfl, rfl, true, congrArg V.bl (sym_hi hs), iteT ?_⟩⟩
    refine ⟨_, rfl, z, rfl, sym_len hs, _, 37, rfl, rfl, ?_⟩
    have e : (!decide (z.cps.getD 0 0 = 37)) = true := by rw [decide_eq_false (sym_ord hs)]; rfl
    show Q (.bl (!decide (z.cps.getD 0 0 = 37))) H
    rw [e]; exact k
/-! ### is_run -/
def sp_is_run : Sp := fun vs H Q _ => ∃ (a : Addr) (s : Sy) (c : Nat), vs = [.ref a] ∧ H a = some (.tup [.str s, vN c]) ∧ Sym s ∧ 1 ≤ c ∧ ∀ H', Same H H' → Q (.bl true) H'
abbrev n_is_run : List Str := ["value"]
theorem sc_is_run : FnScope n_is_run ["value"] (defScope s_is_run) := ⟨rfl, rfl, rfl, by decide +kernel, rfl, by decide +kernel, by decide +kernel⟩
theorem ok_is_run (T : Txt K mg) : Cl P w K mg base CX0 "is_run" ["value"] 2 [] sp_is_run := by
  obtain ⟨fd, F⟩ := T.def_ 3 (d := d_is_run) rfl
  have C_is_symbol := ok_is_symbol (P := P) (w := w) (base := base) T
  have C_is_integer2 := ok_is_integer2 (P := P) (w := w) (base := base) T
  refine cl_ok F (T.glo 2) (fun _ _ _ _ _ _ us hl => match us, hl with | [_], _ => rfl) sc_is_run (fun vs H Q E h => ?_) (fun cdv A outer s H vs Q E hr h => ?_)
  · obtain ⟨a, s, c, rfl, _⟩ := h
    rfl
  · obtain ⟨a, s, c, rfl, ha, hs, hc, k⟩ := h
    refine ⟨_, (pss_cons (ps_if (PW.pt (pw_or (pt_not (pt_val (pe_callB call_isiT (by rfl) (T.free 84) bt_isinstance (pa_cons (pv 0) (pa_cons (pe_tup (pa_cons (pe_ty (T.free 88) bt_list) (pa_cons (pe_ty (T.free 89) bt_tuple) pa_nil))) pa_nil))))) (pw_or1 (pt_cmpR oNe (pe_callB call_len_seq (by rfl) (T.free 83) bt_len (pa_cons (pv 0) pa_nil)) pe_int (nomark _)))))
        (pss_one (ps_ret pe_bl))
        pss_nil)
      (pss_one (ps_ret (pe_and (pe_cl C_is_symbol (hr.mono (by decide)) (pa_cons (pe_ix ix_tup (pv 0) pe_int (fun _ _ => rfl)) pa_nil)) (pe_one (pe_cl C_is_integer2 (hr.mono (by decide)) (pa_cons (pe_ix ix_tup (pv 0) pe_int (fun _ _ => rfl)) (pa_cons pe_int pa_nil)))))))), ?_⟩
    refine ⟨_, rfl, z2, fun p np => ?_⟩
    have s1 : Same H (upd H p (.tup [.ty "list", .ty "tuple"])) := Same.new np
    have ha1 := s1 _ _ ha
    refine ⟨_, p, _, _, _, true, rfl, upd_same, .cons (.ty _) (.cons (.ty _) .nil), .base (.tup ha1), ka_t, true, rfl, ?_⟩
    refine iteF ⟨_, rfl, a, _, rfl, .inr (SqT.h ha1), 2, 2, rfl, rfl, false, rfl, ?_⟩
    refine iteF ?_
    refine ⟨_, rfl, a, _, _, _, rfl, rfl, SqT.h ha1, atI_nat (j := 0) rfl, s, rfl, hs, true, rfl, iteT ?_⟩
    refine ⟨_, rfl, a, _, _, _, rfl, rfl, SqT.h ha1, atI_nat (j := 1) rfl, c, 1, none, rfl, ?_⟩
    have e : inB c 1 none = true := decide_eq_true hc
    show Q (.bl (inB c 1 none)) _
    rw [e]; exact k _ s1
end
end Sl

end
section
set_option Elab.async false
set_option linter.all false
set_option maxRecDepth 100000
set_option maxHeartbeats 4000000
namespace Sl
open PySem PySem.Spec PyProof.Rows L2
/-! ### methods and classes -/
structure ClM (P : Program) (w : World) (K : PySem.W.Frag) (mg : Str → Option Value) (base : Heap) (CX : CXT) (x m : Str) (ps : List Str) (k : Nat) (sp : Sp) : Prop where
  ex : ∃ (f : Addr) (fd : FuncData), Cls K (He.ga K x) ∧ Meth K (He.ga K x) m f ∧ Binds K fd ps [] ∧ FnOk P w K mg base CX k f fd ps sp
structure ClK (P : Program) (w : World) (K : PySem.W.Frag) (mg : Str → Option Value) (base : Heap) (CX : CXT) (x : Str) (ps : List Str) (k : Nat) (sp : Sp) : Prop where
  ex : ∃ (f : Addr) (fd : FuncData), Mk K (He.ga K x) f ∧ mg x = some (.ref (He.ga K x)) ∧ Binds K fd ps [] ∧ FnOk P w K mg base CX k f fd ps sp
section
variable {P : Program} {w : World} {K : PySem.W.Frag} {mg : Str → Option Value} {base : Heap} {CX : CXT}
theorem clm_ok {x m qual : Str} {params : Arguments} {body : List Stmt} {scope : Scope} {fd : FuncData} {N ps : List Str} {k : Nat} {sp : Sp} (F : FunD K m qual params body scope [] [] (He.fAd K (x, some m)) fd) (c : (He.Fa.cls x).ok K = true) (hm : (He.Fa.meth x m).ok K = true)
    (hb : ∀ (kV doc pm : Value) (an : Option Addr) (cdv ct : Value) (us : List Value), us.length = ps.length → bindArgs (PySem.W.fnOf m qual params body scope .none kV doc pm an cdv ct) ⟨us, []⟩ = pure (ps.zip us))
    (S : FnScope N ps scope) (len : ∀ vs H Q E, sp vs H Q E → vs.length = ps.length)
    (hbody : ∀ (cdv : Value) (A : Around) (outer : List Env) (s : Shared) (H : Hp) (vs : List V) (Q : VK) (E : XK), Room k (A.deeper (envOfC qual scope s.heap.objs.size (He.fAd K (x, some m)) cdv)) → sp vs H Q E →
      ∃ t, PSs (cxOf CX0 P w K mg base N qual scope (He.fAd K (x, some m)) cdv A outer s H E).nox body t ∧ t { nx := fun _ H' => Q .non H', rt := Q } (start N vs) H) : ClM P w K mg base CX0 x m ps (k + 1) sp :=
  ⟨_, fd, He.cls_ok c, He.meth_ok hm, F.bindsN hb, F.ok S len fun cdv A outer s H vs Q E hr h => by
    obtain ⟨t, h1, h2⟩ := hbody cdv A outer s H vs Q E hr h
    exact ⟨t, h1.nox, h2⟩⟩
theorem clk_ok {x qual : Str} {params : Arguments} {body : List Stmt} {scope : Scope} {fd : FuncData} {N ps : List Str} {k : Nat} {sp : Sp} (F : FunD K "__init__" qual params body scope [] [] (He.fAd K (x, some "__init__")) fd) (c : (He.Fa.mkr x).ok K = true) (hm : mg x = some (.ref (He.ga K x)))
    (hb : ∀ (kV doc pm : Value) (an : Option Addr) (cdv ct : Value) (us : List Value), us.length = ps.length → bindArgs (PySem.W.fnOf "__init__" qual params body scope .none kV doc pm an cdv ct) ⟨us, []⟩ = pure (ps.zip us))
    (S : FnScope N ps scope) (len : ∀ vs H Q E, sp vs H Q E → vs.length = ps.length)
    (hbody : ∀ (cdv : Value) (A : Around) (outer : List Env) (s : Shared) (H : Hp) (vs : List V) (Q : VK) (E : XK), Room k (A.deeper (envOfC qual scope s.heap.objs.size (He.fAd K (x, some "__init__")) cdv)) → sp vs H Q E →
      ∃ t, PSs (cxOf CX0 P w K mg base N qual scope (He.fAd K (x, some "__init__")) cdv A outer s H E).nox body t ∧ t { nx := fun _ H' => Q .non H', rt := Q } (start N vs) H) : ClK P w K mg base CX0 x ps (k + 1) sp :=
  ⟨_, fd, He.mkr_ok c, hm, F.bindsN hb, F.ok S len fun cdv A outer s H vs Q E hr h => by
    obtain ⟨t, h1, h2⟩ := hbody cdv A outer s H vs Q E hr h
    exact ⟨t, h1.nox, h2⟩⟩
variable {X : Cx} {x m : Str} {o e : Expr} {es : List Expr} {ta : TE} {t : TA} {p pos apos : Pos} {ps : List Str} {k : Nat} {sp : Sp}
theorem pe_clm {pl : Sem Bool} (C : ClM X.prog X.w X.K X.mg X.base CX0 x m ps k sp) (hr : Room k X.A) (ho : PE X o ta) (ha : PA X (e :: es) t)
    (hst : starEach (e :: es) X.env = (false, eval e X.env) :: starEach es X.env := by rfl) (hpl : (backTo pos (starEach es X.env)).any (·.1) = false := by rfl)
    (ht : eval (.Call (.Attribute o m apos) (e :: es) [] pos) X.env = (do
      let ov ← eval o X.env
      standAt apos.atName
      let (f, first) ← holding [ov] (getMethod ov m pl)
      callWith pos f first (backTo pos (starEach (e :: es) X.env)) (backToKw pos (keywordEach [] X.env))) := by rfl) : PE X (.Call (.Attribute o m apos) (e :: es) [] pos) (tMeth (He.ga X.K x) m sp [] E0 ta t) := by
  obtain ⟨f, fd, c, hm, hb, F⟩ := C.ex
  exact pe_meth ho c hm F hr hb .nil pass0 ha hst hpl ht
theorem pe_clm0 {pl : Sem Bool} (C : ClM X.prog X.w X.K X.mg X.base CX0 x m ps k sp) (hr : Room k X.A) (ho : PE X o ta)
    (ht : eval (.Call (.Attribute o m apos) [] [] pos) X.env = (do
      let ov ← eval o X.env
      standAt apos.atName
      let (f, first) ← holding [ov] (getMethod ov m pl)
      callWith pos f first (backTo pos (starEach [] X.env)) (backToKw pos (keywordEach [] X.env))) := by rfl) : PE X (.Call (.Attribute o m apos) [] [] pos) (tMeth (He.ga X.K x) m sp [] E0 ta tNil) := by
  obtain ⟨f, fd, c, hm, hb, F⟩ := C.ex
  exact pe_meth0 ho c hm F hr hb .nil pass0 ht
theorem pe_clk (C : ClK X.prog X.w X.K X.mg X.base CX0 x ps k sp) (hr : Room (k + 1) X.A) (ha : PA X (e :: es) t) (hg : Gl X x := by rfl) (hdb : (x == ("__debug__" : Str)) = false := by decide)
    (he : starEach (e :: es) X.env = (false, eval e X.env) :: starEach es X.env := by rfl) (hpl : (backTo pos (starEach es X.env)).any (·.1) = false := by rfl) : PE X (.Call (.Name x p) (e :: es) [] pos) (tMake (He.ga X.K x) sp [] E0 t) := by
  obtain ⟨f, fd, M, hm, hb, F⟩ := C.ex
  exact pe_make M F hr hg hm hb .nil pass0 ha hdb he hpl
end
end Sl
namespace Sl
open PySem PySem.Spec PyProof.Rows L2
/-! ### rules with the written part named (within a comprehension) -/
section
variable (K : PySem.W.Frag) {X : Cx}
theorem ix_listK (h : X.K = K := by rfl) : IxR X (rIxL K) := by subst h; exact ix_list
theorem ix_tupK (h : X.K = K := by rfl) : IxR X (rIxT K) := by subst h; exact ix_tup
theorem sl_listK (h : X.K = K := by rfl) : SlR X (rSlL K) := by subst h; exact sl_list
theorem sl_tupK (h : X.K = K := by rfl) : SlR X (rSlT K) := by subst h; exact sl_tup
theorem call_len_seqK (h : X.K = K := by rfl) : CallR X (.builtin "len") (fun xs H Q => ∃ p ys, xs = [.ref p] ∧ (SqL K H p ys ∨ SqT K H p ys) ∧ Q (.int ys.length) H) := by subst h; exact call_len_seq
theorem call_tupleTK (h : X.K = K := by rfl) : CallR X (.type "tuple") (fun xs H Q => ∃ a ys, xs = [.ref a] ∧ SqT K H a ys ∧ Q (.ref a) H) := by subst h; exact call_tupleT
theorem call_list_ofK (h : X.K = K := by rfl) : CallR X (.type "list") (fun xs H Q => ∃ p ys, xs = [.ref p] ∧ (SqL K H p ys ∨ SqT K H p ys) ∧ ∀ l, H l = none → Q (.ref l) (upd H l (.lst ys))) := by subst h; exact call_list_of
theorem op_in_seqK (h : X.K = K := by rfl) : OpR X (compareOp .In) (rIn K false) := by subst h; exact op_in_seq
theorem op_notIn_seqK (h : X.K = K := by rfl) : OpR X (compareOp .NotIn) (rIn K true) := by subst h; exact op_notIn_seq
theorem op_eqDK (hu : X.A.units + 64 < cLine) (h : X.K = K := by rfl) : OpR X (compareOp .Eq) (rEqD K) := by subst h; exact op_eqD hu
theorem op_neDK (hu : X.A.units + 64 < cLine) (h : X.K = K := by rfl) : OpR X (compareOp .NotEq) (rNeD K) := by subst h; exact op_neD hu
theorem call_isiK (h : X.K = K := by rfl) : CallR X (.builtin "isinstance") (rIsi K) := by subst h; exact call_isi
theorem call_isiTK (h : X.K = K := by rfl) : CallR X (.builtin "isinstance") (rIsiT K) := by subst h; exact call_isiT
theorem cr_sumK (hc : X.calm = true) (h : X.K = K := by rfl) : CallR X (.builtin "sum") (rSum K) := by subst h; exact cr_sum hc
theorem cr_allK (hc : X.calm = true) (h : X.K = K := by rfl) : CallR X (.builtin "all") (rAll K) := by subst h; exact cr_all hc
theorem cr_anyK (hc : X.calm = true) (h : X.K = K := by rfl) : CallR X (.builtin "any") (rAny K) := by subst h; exact cr_any hc
theorem cr_sortedK (h : X.K = K := by rfl) : CallR X (.builtin "sorted") (rSorted K) := by subst h; exact cr_sorted
variable {e o : Expr} {es : List Expr} {f x m : Str} {ta : TE} {t : TA} {pos p apos : Pos} {P : Program} {w : World} {mg : Str → Option Value} {base : Heap} {ps : List Str} {k : Nat} {sp : Sp}
theorem pe_fldK (ha : PE X e ta) (hb : attributeBase e f X.env (eval e X.env) = eval e X.env := by rfl) (h : X.K = K := by rfl) : PE X (.Attribute e f pos) (tFld K ta f) := by subst h; exact pe_fld ha hb
theorem pe_clmK {pl : Sem Bool} (C : ClM X.prog X.w X.K X.mg X.base CX0 x m ps k sp) (hr : Room k X.A) (ho : PE X o ta) (ha : PA X (e :: es) t) (h : X.K = K := by rfl)
    (hst : starEach (e :: es) X.env = (false, eval e X.env) :: starEach es X.env := by rfl) (hpl : (backTo pos (starEach es X.env)).any (·.1) = false := by rfl)
    (ht : eval (.Call (.Attribute o m apos) (e :: es) [] pos) X.env = (do
      let ov ← eval o X.env
      standAt apos.atName
      let (f, first) ← holding [ov] (getMethod ov m pl)
      callWith pos f first (backTo pos (starEach (e :: es) X.env)) (backToKw pos (keywordEach [] X.env))) := by rfl) : PE X (.Call (.Attribute o m apos) (e :: es) [] pos) (tMeth (He.ga K x) m sp [] E0 ta t) := by
  subst h; exact pe_clm C hr ho ha hst hpl ht
theorem pe_clm0K {pl : Sem Bool} (C : ClM X.prog X.w X.K X.mg X.base CX0 x m ps k sp) (hr : Room k X.A) (ho : PE X o ta) (h : X.K = K := by rfl)
    (ht : eval (.Call (.Attribute o m apos) [] [] pos) X.env = (do
      let ov ← eval o X.env
      standAt apos.atName
      let (f, first) ← holding [ov] (getMethod ov m pl)
      callWith pos f first (backTo pos (starEach [] X.env)) (backToKw pos (keywordEach [] X.env))) := by rfl) : PE X (.Call (.Attribute o m apos) [] [] pos) (tMeth (He.ga K x) m sp [] E0 ta tNil) := by
  subst h; exact pe_clm0 C hr ho ht
end
end Sl

end
section
set_option Elab.async false
set_option linter.all false
set_option maxRecDepth 100000
set_option maxHeartbeats 4000000
namespace Sl
open PySem PySem.Spec PyProof.Rows L2
structure RnOk (rs : List (Sy × Nat)) : Prop where
  wr : Wr yes rs
  sym : ∀ x ∈ rs, Sym x.1
def tsz (rs : List (Sy × Nat)) : Nat := (rs.map (·.2)).sum
theorem tsz_ex : ∀ rs : List (Sy × Nat), tsz rs = (exR rs).length
  | [] => rfl
  | x :: r => by
    show (x.2 :: r.map (·.2)).sum = (List.replicate x.2 x.1 ++ exR r).length
    rw [List.sum_cons, List.length_append, List.length_replicate, ← tsz_ex r]; rfl
theorem fm_true (n : Nat) : (List.range n).filterMap (fun _ => some (V.bl true)) = (List.replicate n true).map V.bl := by
  induction n with
  | zero => rfl
  | succ n ih => rw [range_fm, ih, List.replicate_succ', List.map_append]; rfl
theorem all_true (n : Nat) : (List.replicate n true).all id = true := by
  rw [List.all_eq_true]
  intro x hx
  rw [List.eq_of_mem_replicate hx]; rfl
theorem LT.last {H : Hp} {l : Addr} {rows : List (List V)} {r : List V} (h : LT H l (rows ++ [r])) : ∃ ys t, H l = some (.lst (ys ++ [.ref t])) ∧ H t = some (.tup r) ∧ ys.length = rows.length := by
  obtain ⟨xs, h1, h2⟩ := h
  obtain ⟨a, b, rfl, p1, p2⟩ := Paired.split h2
  cases p2 with
  | cons q nil =>
    cases nil
    obtain ⟨t, rfl, ht⟩ := q
    exact ⟨a, t, h1, ht, Paired.length p1⟩
theorem set_last {α : Type} (l : List α) (a b : α) : (l ++ [a]).set l.length b = l ++ [b] := by
  rw [List.set_append_right _ _ (Nat.le_refl _), Nat.sub_self]; rfl
theorem ixN_last {n : Nat} : ixN (n + 1) (-1) = some n := by
  unfold ixN
  rw [if_neg (by decide), if_pos (by omega)]
  congr 1
  omega
theorem eqv_E {ra : List (List V)} : PyData.eqv (pdR ra) (.list []) = ra.isEmpty := by
  cases ra with
  | nil => rfl
  | cons r rs => rfl
section
variable {P : Program} {w : World} {K : PySem.W.Frag} {mg : Str → Option Value} {base : Heap}
/-! ### is_text -/
def sp_is_text : Sp := fun vs H Q _ => ∃ (a : Addr) (rs : List (Sy × Nat)), vs = [.ref a] ∧ LT H a (enR rs) ∧ RnOk rs ∧ rs.length ≤ 100000 ∧ ∀ H', Same H H' → Q (.bl true) H'
abbrev n_is_text : List Str := ["value", "run", "place"]
theorem sc_is_text : FnScope n_is_text ["value"] (defScope s_is_text) := ⟨rfl, rfl, rfl, by decide +kernel, rfl, by decide +kernel, by decide +kernel⟩
theorem ok_is_text (T : Txt K mg) : Cl P w K mg base CX0 "is_text" ["value"] 3 [] sp_is_text := by
  obtain ⟨fd, F⟩ := T.def_ 4 (d := d_is_text) rfl
  have C_is_run := ok_is_run (P := P) (w := w) (base := base) T
  refine cl_ok F (T.glo 3) (fun _ _ _ _ _ _ us hl => match us, hl with | [_], _ => rfl) sc_is_text (fun vs H Q E h => ?_) (fun cdv A outer s H vs Q E hr h => ?_)
  · obtain ⟨a, rs, rfl, _⟩ := h
    rfl
  · obtain ⟨a, rs, rfl, ha, ho, hz, k⟩ := h
    refine ⟨_, (pss_cons (ps_if (PW.pt (pw_or (pt_not (pt_val (pe_callB (call_isiTK K) (by rfl) (T.free 84) bt_isinstance (pa_cons (pv 0) (pa_cons (pe_tup (pa_cons (pe_ty (T.free 88) bt_list) (pa_cons (pe_ty (T.free 89) bt_tuple) pa_nil))) pa_nil))))) (pw_or1 (pt_not (pt_val (pe_callB (cr_allK K rfl) (by rfl) (T.free 81) bt_all (pa_cons (pe_lc (own := [("run", 1)]) (g := (gName 1)) (tt := tYes) rfl sc_is_text.nd (pi_list (pv 0)) (blkOk_by (N := n_is_text) (sc := defScope s_is_text) (by decide +kernel)) (fun _ _ _ _ _ => (pg_name (i := 1) sc_is_text.nd rfl (Or.inl rfl))) (fun _ _ _ _ _ => pts_nil) (fun _ _ _ _ _ => (pe_cl C_is_run (hr.mono (by decide)) (pa_cons (pv 1) pa_nil)))) pa_nil)))))))
        (pss_one (ps_ret pe_bl))
        pss_nil)
      (pss_one (ps_ret (pe_callB (cr_allK K rfl) (by rfl) (T.free 81) bt_all (pa_cons (pe_lc (own := [("place", 2)]) (g := (gName 2)) (tt := tYes) rfl sc_is_text.nd (pi_range1 (by rfl) (T.free 91) (pa_cons (pe_op op_sub (pe_callB (call_len_seqK K) (by rfl) (T.free 83) bt_len (pa_cons (pv 0) pa_nil)) pe_int) pa_nil)) (blkOk_by (N := n_is_text) (sc := defScope s_is_text) (by decide +kernel)) (fun _ _ _ _ _ => (pg_name (i := 2) sc_is_text.nd rfl (Or.inl rfl))) (fun _ _ _ _ _ => pts_nil) (fun _ _ _ _ _ => (pe_cmpR oNeS (pe_ix (ix_tupK K) (pe_ix (ix_listK K) (pv 0) (pv 2) (fun _ _ => rfl)) pe_int (fun _ _ => rfl)) (pe_ix (ix_tupK K) (pe_ix (ix_listK K) (pv 0) (pe_op oAdd (pv 2) pe_int) (fun _ _ => rfl)) pe_int (fun _ _ => rfl)) (nomark _)))) pa_nil))))), ?_⟩
    refine ⟨_, rfl, z2, fun p np => ?_⟩
    have s1 : Same H (upd H p (.tup [.ty "list", .ty "tuple"])) := Same.new np
    have ha1 := ha.same s1
    obtain ⟨xs, hxs, hxl⟩ := ha1.lst
    rw [enR_len] at hxl
    refine ⟨_, p, _, _, _, true, rfl, upd_same, .cons (.ty _) (.cons (.ty _) .nil), .base (.lst hxs), ka_l, true, rfl, ?_⟩
    refine iteF ?_
    refine ⟨_, rfl, a, rfl, ⟨_, SqL.h hxs⟩, fun D nD => lcL_flat (xs := xs) (fun _ => some (.bl true)) (by omega) nD (SqL.h hxs) (fun i x H2 hx s2 Qc Qn t => ?_) fun H2 s2 hD => ?_⟩
    · obtain ⟨xs', t0, e1, e2, e3⟩ := (ha1.same s2).get (i := i) (r := [.str (rs.getD i (sB, 0)).1, vN (rs.getD i (sB, 0)).2]) (by
        have hi : i < rs.length := hxl ▸ (List.getElem?_eq_some_iff.mp hx).1
        unfold enR
        rw [List.getElem?_map, List.getElem?_eq_getElem hi, List.getD_eq_getElem?_getD, List.getElem?_eq_getElem hi]; rfl)
      have hi : i < rs.length := hxl ▸ (List.getElem?_eq_some_iff.mp hx).1
      have mem : rs.getD i (sB, 0) ∈ rs := by rw [List.getD_eq_getElem?_getD, List.getElem?_eq_getElem hi]; exact List.getElem_mem hi
      have hx2 := s2 _ _ hxs
      rw [e1] at hx2
      cases hx2
      rw [e2] at hx
      cases hx
      exact El.name ⟨_, rfl, t0, _, _, rfl, e3, ho.sym _ mem, ho.wr.pos _ mem, fun H3 s3 => t H3 s3⟩
    · refine ⟨D, List.replicate xs.length true, rfl, by rw [← fm_true]; exact SqL.h hD, true, congrArg V.bl (all_true _), iteF ?_⟩
      have ha2 := ha1.same s2
      have hxs2 := s2 _ _ hxs
      refine ⟨_, rfl, a, _, rfl, .inl (SqL.h hxs2), (xs.length : Int), 1, rfl, rfl, (xs.length : Int) - 1, rfl, by omega, by omega, fun D2 nD2 => lcRg_flat (fun _ => some (.bl true)) (by omega) nD2 (fun i H3 hi s3 Qc Qn t => ?_) fun H3 s3 hD2 => ?_⟩
      · have hi1 : i < rs.length := by omega
        have hi2 : i + 1 < rs.length := by omega
        have ha3 := ha2.same s3
        obtain ⟨x1, t1, e1, e2, e3⟩ := ha3.get (i := i) (r := [.str rs[i].1, vN rs[i].2]) (by unfold enR; rw [List.getElem?_map, List.getElem?_eq_getElem hi1]; rfl)
        obtain ⟨x2, t2, f1, f2, f3⟩ := ha3.get (i := i + 1) (r := [.str rs[i + 1].1, vN rs[i + 1].2]) (by unfold enR; rw [List.getElem?_map, List.getElem?_eq_getElem hi2]; rfl)
        have ne : ¬ rs[i].1 = rs[i + 1].1 := fun z => ho.wr.nb.at (List.getElem?_eq_getElem hi1) (List.getElem?_eq_getElem hi2) ⟨z, rfl⟩
        refine El.name ?_
        refine ⟨_, rfl, _, rfl, a, _, _, _, rfl, rfl, SqL.h e1, at_of (Int.zero_add _) e2, t1, _, _, _, rfl, rfl, SqT.h e3, atI_nat (j := 0) rfl, ?_⟩
        refine ⟨_, rfl, _, rfl, i, 1, congrArg V.int (Int.zero_add _), rfl, a, _, _, _, rfl, rfl, SqL.h f1, at_of rfl f2, t2, _, _, _, rfl, rfl, SqT.h f3, atI_nat (j := 0) rfl, _, _, rfl, rfl, ?_⟩
        show Qc (.bl (!decide (rs[i].1 = rs[i + 1].1))) H3
        rw [decide_eq_false ne]
        exact t H3 (Same.refl _)
      · refine ⟨D2, List.replicate ((xs.length : Int) - 1).toNat true, rfl, by rw [← fm_true]; exact SqL.h hD2, ?_⟩
        show Q (.bl ((List.replicate ((xs.length : Int) - 1).toNat true).all id)) H3
        rw [all_true]
        exact k _ ((s1.trans s2).trans s3)
end
end Sl


end
section
set_option Elab.async false
set_option linter.all false
set_option maxRecDepth 100000
set_option maxHeartbeats 4000000
namespace Sl
open PySem PySem.Spec PyProof.Rows L2
theorem fm_some {α : Type} (rows : List α) : (List.range rows.length).filterMap (fun i => rows[i]?) = rows := by
  have := fm_rows (rows := rows) (f := fun i => rows[i]?) (k := some) fun i r h => h
  rw [this, List.filterMap_some]
theorem sum_cast : ∀ l : List Nat, (l.map fun n : Nat => (n : Int)).sum = ((l.sum : Nat) : Int)
  | [] => rfl
  | x :: r => by rw [List.map_cons, List.sum_cons, List.sum_cons, sum_cast r]; omega
theorem decT {p : Prop} [Decidable p] (h : p) : V.bl (decide p) = V.bl true := congrArg V.bl (decide_eq_true h)
theorem decF {p : Prop} [Decidable p] (h : ¬ p) : V.bl (decide p) = V.bl false := congrArg V.bl (decide_eq_false h)
theorem decNT {p : Prop} [Decidable p] (h : ¬ p) : V.bl (!decide p) = V.bl true := congrArg V.bl (by rw [decide_eq_false h]; rfl)
theorem decNF {p : Prop} [Decidable p] (h : p) : V.bl (!decide p) = V.bl false := congrArg V.bl (by rw [decide_eq_true h]; rfl)
theorem LT.row {H : Hp} {a : Addr} {rows : List (List V)} {xs : List V} {i : Nat} {x : V} (h : LT H a rows) (hx : H a = some (.lst xs)) (e : xs[i]? = some x) : ∃ r t, rows[i]? = some r ∧ x = .ref t ∧ H t = some (.tup r) := by
  obtain ⟨ys, h1, h2⟩ := h
  rw [hx] at h1
  cases h1
  obtain ⟨r, e1, t, e2, e3⟩ := Paired.get1 h2 e
  exact ⟨r, t, e1, e2, e3⟩
theorem enR_get {rs : List (Sy × Nat)} {i : Nat} {r : List V} (h : (enR rs)[i]? = some r) : ∃ x, rs[i]? = some x ∧ r = [.str x.1, vN x.2] := by
  unfold enR at h
  rw [List.getElem?_map] at h
  cases e : rs[i]? with
  | none => rw [e] at h; cases h
  | some x => rw [e] at h; exact ⟨x, rfl, (Option.some.inj h).symm⟩
theorem enB_get {bs : List (Ch × Nat)} {i : Nat} {r : List V} (h : (enB bs)[i]? = some r) : ∃ x, bs[i]? = some x ∧ r = [.str x.1.1, vN x.1.2, vN x.2] := by
  unfold enB at h
  rw [List.getElem?_map] at h
  cases e : bs[i]? with
  | none => rw [e] at h; cases h
  | some x => rw [e] at h; exact ⟨x, rfl, (Option.some.inj h).symm⟩
theorem p400 {n k : Nat} (h : n < 2 ^ k) (hk : k ≤ 400) : n < 2 ^ 400 := Nat.lt_of_lt_of_le h (Nat.pow_le_pow_right (by decide) hk)
section
variable {P : Program} {w : World} {K : PySem.W.Frag} {mg : Str → Option Value} {base : Heap}
/-! ### checked_text -/
def sp_checked_text : Sp := fun vs H Q _ => ∃ (a : Addr) (rs : List (Sy × Nat)), vs = [.ref a] ∧ LT H a (enR rs) ∧ RnOk rs ∧ rs.length ≤ 100000 ∧ ∀ H' p, Same H H' → H p = none → LT H' p (enR rs) → Q (.ref p) H'
abbrev n_checked_text : List Str := ["text", "run"]
theorem sc_checked_text : FnScope n_checked_text ["text"] (defScope s_checked_text) := ⟨rfl, rfl, rfl, by decide +kernel, rfl, by decide +kernel, by decide +kernel⟩
theorem ok_checked_text (T : Txt K mg) : Cl P w K mg base CX0 "checked_text" ["text"] 4 [] sp_checked_text := by
  obtain ⟨fd, F⟩ := T.def_ 5 (d := d_checked_text) rfl
  have C_is_text := ok_is_text (P := P) (w := w) (base := base) T
  refine cl_ok F (T.glo 4) (fun _ _ _ _ _ _ us hl => match us, hl with | [_], _ => rfl) sc_checked_text (fun vs H Q E h => ?_) (fun cdv A outer s H vs Q E hr h => ?_)
  · obtain ⟨a, rs, rfl, _⟩ := h
    rfl
  · obtain ⟨a, rs, rfl, ha, ho, hz, k⟩ := h
    refine ⟨_, (pss_cons (ps_if (pt_not (pt_val (pe_cl C_is_text (hr.mono (by decide)) (pa_cons (pv 0) pa_nil))))
        (pss_one ps_never)
        pss_nil)
      (pss_one (ps_ret (pe_lc (own := [("run", 1)]) (g := (gName 1)) (tt := tYes) rfl sc_checked_text.nd (pi_list (pv 0)) (blkOk_by (N := n_checked_text) (sc := defScope s_checked_text) (by decide +kernel)) (fun _ _ _ _ _ => (pg_name (i := 1) sc_checked_text.nd rfl (Or.inl rfl))) (fun _ _ _ _ _ => pts_nil) (fun _ _ _ _ _ => (pe_callTy (call_tupleTK K) (by rfl) (T.free 89) bt_tuple (pa_cons (pv 1) pa_nil))))))), ?_⟩
    refine ⟨_, rfl, a, rs, rfl, ha, ho, hz, fun H1 s1 => ⟨true, rfl, iteF ?_⟩⟩
    have ha1 := ha.same s1
    obtain ⟨xs, hxs, hxl⟩ := ha1.lst
    rw [enR_len] at hxl
    refine ⟨_, rfl, a, rfl, ⟨_, SqL.h hxs⟩, fun D nD => lcL_rows (xs := xs) (fun i => (enR rs)[i]?) (by omega) nD (SqL.h hxs) (fun i x H2 hx s2 Qc Qn t => ?_) fun H2 s2 hD => ?_⟩
    · obtain ⟨r, t0, e1, rfl, e3⟩ := (ha1.same s2).row (s2 _ _ hxs) hx
      have t' : ∀ v H', Same H2 H' → RowV H' v r → Qc v H' := by
        unfold TurnR at t
        rw [e1] at t
        exact t
      exact El.name ⟨_, rfl, t0, _, rfl, SqT.h e3, t' _ _ (Same.refl _) ⟨t0, rfl, e3⟩⟩
    · rw [hxl, ← enR_len rs, fm_some] at hD
      exact k H2 D (s1.trans s2) (s1.free nD) hD
/-! ### add_run -/
def sp_add_run : Sp := fun vs H Q _ => ∃ (l : Addr) (z : Sy) (c : Nat) (rs : List (Sy × Nat)), vs = [.ref l, .str z, vN c] ∧ LT H l (enR rs) ∧ (∀ x ∈ rs, Sym x.1) ∧ rs.length ≤ 100000 ∧ ∀ H', Mod l H H' → LT H' l (enR (addR yes rs z c)) → Q .non H'
abbrev n_add_run : List Str := ["runs", "symbol", "count"]
theorem sc_add_run : FnScope n_add_run ["runs", "symbol", "count"] (defScope s_add_run) := ⟨rfl, rfl, rfl, by decide +kernel, rfl, by decide +kernel, by decide +kernel⟩
theorem ok_add_run (T : Txt K mg) : Cl P w K mg base CX0 "add_run" ["runs", "symbol", "count"] 1 [] sp_add_run := by
  obtain ⟨fd, F⟩ := T.def_ 6 (d := d_add_run) rfl
  refine cl_ok F (T.glo 5) (fun _ _ _ _ _ _ us hl => match us, hl with | [_, _, _], _ => rfl) sc_add_run (fun vs H Q E h => ?_) (fun cdv A outer s H vs Q E hr h => ?_)
  · obtain ⟨l, z, c, rs, rfl, _⟩ := h
    rfl
  · obtain ⟨l, z, c, rs, rfl, hl, hs, hz, k⟩ := h
    refine ⟨_, (pss_cons (ps_if (pt_cmpR oLt (pv 2) pe_int (nomark _))
        (pss_one ps_retN)
        pss_nil)
      (pss_one (ps_if (PW.pt (pw_and (pt_cmpR (op_neDK K hr.units) (pv 0) (pe_lst pa_nil) (nomark _)) (pw_and1 (pt_cmpR oEqS (pe_ix (ix_tupK K) (pe_ix (ix_listK K) (pv 0) (pe_un un_neg pe_int) (fun _ _ => rfl)) pe_int (fun _ _ => rfl)) (pv 1) (nomark _)))))
        (pss_one (ps_asg (pe_tup (pa_cons (pv 1) (pa_cons (pe_op oAdd (pe_ix (ix_tupK K) (pe_ix (ix_listK K) (pv 0) (pe_un un_neg pe_int) (fun _ _ => rfl)) pe_int (fun _ _ => rfl)) (pv 2)) pa_nil))) (pg_sub (pv 0) (pe_un un_neg pe_int) set_list)))
        (pss_one (ps_expr (pe_bm PySem.F.plainAttrs_list PySem.F.slot_list_append PySem.F.type_list_append mt_append (pv 0) (pa_cons (pe_tup (pa_cons (pv 1) (pa_cons (pv 2) pa_nil))) pa_nil))))))), ?_⟩
    refine ⟨_, rfl, c, 1, rfl, rfl, _, rfl, ite2 (fun hc => ?_) (fun hc => ?_)⟩
    · have c0 : c = 0 := by have : c < 1 := of_decide_eq_true hc; omega
      subst c0
      refine k H Mod.refl ?_
      rw [addR_zero]; exact hl
    · have c0 : c ≠ 0 := fun q => hc (decide_eq_true (by omega))
      refine ⟨_, rfl, z0, fun p np => ?_⟩
      have s1 : Same H (upd H p (.lst [])) := Same.new np
      have hl1 := hl.same s1
      have ok1 : ∀ r ∈ enR rs, r.all okV = true := fun r hr => all_imp (fun _ => okV_of_ns) (enR_ns hs r hr)
      refine ⟨_, _, hl1.dpo ok1, (LT.nil upd_same).dpo (fun r hr => nomatch hr), shaped_rows ok1, shaped_rows (fun r hr => nomatch hr), ?_⟩
      rcases nil_or_snoc rs with e | ⟨L, ⟨j, d⟩, e⟩
      · subst e
        refine ⟨false, rfl, iteF (iteF ?_)⟩
        obtain ⟨xs, hxs, hxl⟩ := hl1.lst
        refine ⟨_, rfl, .inl ⟨rfl, _, SqL.h hxs⟩, _, rfl, _, rfl, z2, fun t nt => ?_⟩
        have s2 : Same (upd H p (.lst [])) (upd (upd H p (.lst [])) t (.tup [.str z, vN c])) := Same.new nt
        refine ⟨l, xs, _, rfl, rfl, s2 _ _ hxs, by rw [hxl]; exact slt (by simp [enR]), ?_⟩
        refine k _ ((Mod.of_same (s1.trans s2)).trans Mod.upd) ?_
        rw [addR_nil z c0]
        exact (hl1.same s2).push (s2 _ _ hxs) upd_same
      · subst e
        refine ⟨true, congrArg V.bl (by rw [show PyData.eqv (pdR (enR (L ++ [(j, d)]))) (pdR []) = (enR (L ++ [(j, d)])).isEmpty from eqv_E, enR_app]; cases enR L <;> rfl), iteT ?_⟩
        rw [enR_app] at hl1
        obtain ⟨ys, t, e1, e2, e3⟩ := hl1.last
        rw [enR_len] at e3
        refine ⟨_, rfl, 1, rfl, l, _, _, _, rfl, rfl, SqL.h e1, atI_last _ _, t, _, _, _, rfl, rfl, SqT.h e2, atI_nat (j := 0) rfl, ?_⟩
        refine ⟨_, rfl, j, z, rfl, rfl, _, rfl, ite2 (fun hj => ?_) (fun hj => ?_)⟩
        · have jz : j = z := of_decide_eq_true hj
          subst jz
          refine ⟨_, rfl, _, rfl, 1, rfl, l, _, _, _, rfl, rfl, SqL.h e1, atI_last _ _, t, _, _, _, rfl, rfl, SqT.h e2, atI_nat (j := 1) rfl, _, rfl, d, c, rfl, rfl, z2, fun u nu => ?_⟩
          have s2 : Same (upd H p (.lst [])) (upd (upd H p (.lst [])) u (.tup [.str j, vN (d + c)])) := Same.new nu
          refine ⟨_, rfl, 1, rfl, l, _, _, ys.length, rfl, rfl, s2 _ _ e1, (by rw [List.length_append]; exact ixN_last), ?_⟩
          refine k _ ((Mod.of_same (s1.trans s2)).trans Mod.upd) ?_
          rw [addR_same L rfl, enR_app]
          have q := (hl1.same s2).put (i := ys.length) (s2 _ _ e1) (r := [.str j, vN (d + c)]) (p := u) upd_same
          have e4 : (enR L ++ enR [(j, d)]).set ys.length [.str j, vN (d + c)] = enR L ++ enR [(j, d + c)] := by
            have e5 := set_last (enR L) [.str j, vN d] [.str j, vN (d + c)]
            rw [enR_len, ← e3] at e5
            exact e5
          rw [e4] at q
          exact q
        · have jz : ¬ j = z := fun q => hj (decide_eq_true q)
          refine ⟨_, rfl, .inl ⟨rfl, _, SqL.h e1⟩, _, rfl, _, rfl, z2, fun u nu => ?_⟩
          have s2 : Same (upd H p (.lst [])) (upd (upd H p (.lst [])) u (.tup [.str z, vN c])) := Same.new nu
          refine ⟨l, _, _, rfl, rfl, s2 _ _ e1, by rw [List.length_append, e3]; exact slt (by simp only [List.length_append, List.length_singleton] at hz; show L.length + 1 ≤ 1000000; omega), ?_⟩
          refine k _ ((Mod.of_same (s1.trans s2)).trans Mod.upd) ?_
          rw [addR_other L c0 (fun q => jz q.1), enR_app, enR_app]
          exact (hl1.same s2).push (s2 _ _ e1) upd_same
/-! ### size_of -/
def sp_size_of : Sp := fun vs H Q _ => ∃ (a : Addr) (rs : List (Sy × Nat)), vs = [.ref a] ∧ LT H a (enR rs) ∧ rs.length ≤ 100000 ∧ ∀ H', Same H H' → Q (vN (tsz rs)) H'
abbrev n_size_of : List Str := ["runs", "run"]
theorem sc_size_of : FnScope n_size_of ["runs"] (defScope s_size_of) := ⟨rfl, rfl, rfl, by decide +kernel, rfl, by decide +kernel, by decide +kernel⟩
theorem ok_size_of (T : Txt K mg) : Cl P w K mg base CX0 "size_of" ["runs"] 1 [] sp_size_of := by
  obtain ⟨fd, F⟩ := T.def_ 7 (d := d_size_of) rfl
  refine cl_ok F (T.glo 6) (fun _ _ _ _ _ _ us hl => match us, hl with | [_], _ => rfl) sc_size_of (fun vs H Q E h => ?_) (fun cdv A outer s H vs Q E hr h => ?_)
  · obtain ⟨a, rs, rfl, _⟩ := h
    rfl
  · obtain ⟨a, rs, rfl, ha, hz, k⟩ := h
    refine ⟨_, (pss_one (ps_ret (pe_callB (cr_sumK K rfl) (by rfl) (T.free 90) bt_sum (pa_cons (pe_lc (own := [("run", 1)]) (g := (gName 1)) (tt := tYes) rfl sc_size_of.nd (pi_list (pv 0)) (blkOk_by (N := n_size_of) (sc := defScope s_size_of) (by decide +kernel)) (fun _ _ _ _ _ => (pg_name (i := 1) sc_size_of.nd rfl (Or.inl rfl))) (fun _ _ _ _ _ => pts_nil) (fun _ _ _ _ _ => (pe_ix (ix_tupK K) (pv 1) pe_int (fun _ _ => rfl)))) pa_nil)))), ?_⟩
    obtain ⟨xs, hxs, hxl⟩ := ha.lst
    rw [enR_len] at hxl
    refine ⟨_, rfl, a, rfl, ⟨_, SqL.h hxs⟩, fun D nD => lcL_flat (xs := xs) (fun i => rs[i]?.map fun x => vN x.2) (by omega) nD (SqL.h hxs) (fun i x H2 hx s2 Qc Qn t => ?_) fun H2 s2 hD => ?_⟩
    · obtain ⟨r, t0, e1, rfl, e3⟩ := (ha.same s2).row (s2 _ _ hxs) hx
      obtain ⟨y, e4, rfl⟩ := enR_get e1
      have t' : ∀ H', Same H2 H' → Qc (vN y.2) H' := by
        unfold TurnF at t
        rw [e4] at t
        exact t
      exact El.name ⟨_, rfl, t0, _, _, _, rfl, rfl, SqT.h e3, atI_nat (j := 1) rfl, t' _ (Same.refl _)⟩
    · have e : (List.range xs.length).filterMap (fun i => rs[i]?.map fun x => vN x.2) = (rs.map fun x => ((x.2 : Nat) : Int)).map V.int := by
        rw [hxl, fm_rows (k := fun x => some (vN x.2)) (fun i r h => by rw [h]; rfl), List.map_map]
        exact congrFun List.filterMap_eq_map rs
      rw [e] at hD
      refine ⟨D, _, rfl, SqL.h hD, ?_⟩
      have e2 : (rs.map fun x => ((x.2 : Nat) : Int)).sum = ((tsz rs : Nat) : Int) := by
        have := sum_cast (rs.map (·.2))
        rw [List.map_map] at this
        exact this
      show Q (.int (rs.map fun x => ((x.2 : Nat) : Int)).sum) H2
      rw [e2]
      exact k H2 s2
/-! ### length_of -/
def sp_length_of : Sp := fun vs H Q _ => ∃ (a : Addr) (rs : List (Sy × Nat)), vs = [.ref a] ∧ LT H a (enR rs) ∧ RnOk rs ∧ rs.length ≤ 100000 ∧ ∀ H', Same H H' → Q (vN (tsz rs)) H'
abbrev n_length_of : List Str := ["text"]
theorem sc_length_of : FnScope n_length_of ["text"] (defScope s_length_of) := ⟨rfl, rfl, rfl, by decide +kernel, rfl, by decide +kernel, by decide +kernel⟩
theorem ok_length_of (T : Txt K mg) : Cl P w K mg base CX0 "length_of" ["text"] 5 [] sp_length_of := by
  obtain ⟨fd, F⟩ := T.def_ 8 (d := d_length_of) rfl
  have C_size_of := ok_size_of (P := P) (w := w) (base := base) T
  have C_checked_text := ok_checked_text (P := P) (w := w) (base := base) T
  refine cl_ok F (T.glo 7) (fun _ _ _ _ _ _ us hl => match us, hl with | [_], _ => rfl) sc_length_of (fun vs H Q E h => ?_) (fun cdv A outer s H vs Q E hr h => ?_)
  · obtain ⟨a, rs, rfl, _⟩ := h
    rfl
  · obtain ⟨a, rs, rfl, ha, ho, hz, k⟩ := h
    refine ⟨_, (pss_one (ps_ret (pe_cl C_size_of (hr.mono (by decide)) (pa_cons (pe_cl C_checked_text (hr.mono (by decide)) (pa_cons (pv 0) pa_nil)) pa_nil)))), ?_⟩
    exact ⟨_, rfl, a, rs, rfl, ha, ho, hz, fun H1 p s1 np h1 => ⟨p, rs, rfl, h1, hz, fun H2 s2 => k H2 (s1.trans s2)⟩⟩
/-! ### check_position, check_escapes -/
def sp_check_position : Sp := fun vs H Q _ => ∃ p m : Nat, vs = [vN p, vN m] ∧ p ≤ m ∧ Q .non H
abbrev n_check_position : List Str := ["position", "most"]
theorem sc_check_position : FnScope n_check_position ["position", "most"] (defScope s_check_position) := ⟨rfl, rfl, rfl, by decide +kernel, rfl, by decide +kernel, by decide +kernel⟩
theorem ok_check_position (T : Txt K mg) : Cl P w K mg base CX0 "check_position" ["position", "most"] 2 [] sp_check_position := by
  obtain ⟨fd, F⟩ := T.def_ 9 (d := d_check_position) rfl
  have C_is_integer3 := ok_is_integer3 (P := P) (w := w) (base := base) T
  refine cl_ok F (T.glo 8) (fun _ _ _ _ _ _ us hl => match us, hl with | [_, _], _ => rfl) sc_check_position (fun vs H Q E h => ?_) (fun cdv A outer s H vs Q E hr h => ?_)
  · obtain ⟨p, m, rfl, _⟩ := h
    rfl
  · obtain ⟨p, m, rfl, hp, k⟩ := h
    refine ⟨_, (pss_one (ps_if (pt_not (pt_val (pe_cl C_is_integer3 (hr.mono (by decide)) (pa_cons (pv 0) (pa_cons pe_int (pa_cons (pv 1) pa_nil))))))
        (pss_one ps_never)
        pss_nil)), ?_⟩
    refine ⟨_, rfl, _, rfl, p, 0, some m, rfl, true, ?_, iteF k⟩
    show V.bl (decide (0 ≤ p) && decide (p ≤ m)) = _
    rw [decide_eq_true (Nat.zero_le p), decide_eq_true hp]; rfl
def sp_check_escapes : Sp := fun vs H Q _ => ∃ n : Nat, vs = [vN n] ∧ n ≤ 200 ∧ Q .non H
abbrev n_check_escapes : List Str := ["number"]
theorem sc_check_escapes : FnScope n_check_escapes ["number"] (defScope s_check_escapes) := ⟨rfl, rfl, rfl, by decide +kernel, rfl, by decide +kernel, by decide +kernel⟩
theorem ok_check_escapes (T : Txt K mg) : Cl P w K mg base CX0 "check_escapes" ["number"] 2 [] sp_check_escapes := by
  obtain ⟨fd, F⟩ := T.def_ 10 (d := d_check_escapes) rfl
  have C_is_integer3 := ok_is_integer3 (P := P) (w := w) (base := base) T
  refine cl_ok F (T.glo 9) (fun _ _ _ _ _ _ us hl => match us, hl with | [_], _ => rfl) sc_check_escapes (fun vs H Q E h => ?_) (fun cdv A outer s H vs Q E hr h => ?_)
  · obtain ⟨n, rfl, _⟩ := h
    rfl
  · obtain ⟨n, rfl, hp, k⟩ := h
    refine ⟨_, (pss_one (ps_if (pt_not (pt_val (pe_cl C_is_integer3 (hr.mono (by decide)) (pa_cons (pv 0) (pa_cons pe_int (pa_cons (pe_gi (T.int 102)) pa_nil))))))
        (pss_one ps_never)
        pss_nil)), ?_⟩
    refine ⟨_, rfl, n, 0, some 200, rfl, true, ?_, iteF k⟩
    show V.bl (decide (0 ≤ n) && decide (n ≤ 200)) = _
    rw [decide_eq_true (Nat.zero_le n), decide_eq_true hp]; rfl
/-! ### power_of_two, width_of -/
def sp_power_of_two : Sp := fun vs H Q _ => ∃ e : Nat, vs = [vN e] ∧ e ≤ 300 ∧ Q (vN (2 ^ e)) H
abbrev n_power_of_two : List Str := ["exponent", "found", "turn"]
theorem sc_power_of_two : FnScope n_power_of_two ["exponent"] (defScope s_power_of_two) := ⟨rfl, rfl, rfl, by decide +kernel, rfl, by decide +kernel, by decide +kernel⟩
theorem ok_power_of_two (T : Txt K mg) : Cl P w K mg base CX0 "power_of_two" ["exponent"] 1 [] sp_power_of_two := by
  obtain ⟨fd, F⟩ := T.def_ 11 (d := d_power_of_two) rfl
  refine cl_ok F (T.glo 10) (fun _ _ _ _ _ _ us hl => match us, hl with | [_], _ => rfl) sc_power_of_two (fun vs H Q E h => ?_) (fun cdv A outer s H vs Q E hr h => ?_)
  · obtain ⟨e, rfl, _⟩ := h
    rfl
  · obtain ⟨e, rfl, he, k⟩ := h
    refine ⟨_, (pss_cons (ps_set (i := 1) sc_power_of_two.nd rfl (Or.inl rfl) pe_int)
      (pss_cons (ps_for PassesOwn.never rfl (pi_range1 (by rfl) (T.free 91) (pa_cons (pv 0) pa_nil)) (pg_name (i := 2) sc_power_of_two.nd rfl (Or.inl rfl))
        (pss_one (ps_aug (i := 1) sc_power_of_two.nd rfl (Or.inl rfl) pe_int iMul)))
      (pss_one (ps_ret (pv 1))))), ?_⟩
    refine ⟨_, rfl, (e : Int), rfl, by omega, by omega, ?_⟩
    rw [Int.toNat_natCast]
    refine for_range (lo := 0) (n := e) (fun i σ H' => ∃ v, σ = [some (vN e), some (vN (2 ^ i)), v] ∧ H' = H) ⟨none, rfl, rfl⟩ ?_ ?_
    · rintro i σ H' hi ⟨v, rfl, rfl⟩
      refine ⟨_, rfl, 2 ^ i, 2, rfl, rfl, ⟨Nat.pow_lt_pow_right (by decide) (by omega), p400 (k := 2) (by decide) (by decide)⟩, ?_⟩
      · refine ⟨some (.int (0 + (i : Int))), ?_, rfl⟩
        rw [Nat.pow_succ]; rfl
    · rintro σ H' ⟨v, rfl, rfl⟩
      exact ⟨_, rfl, k⟩
def sp_width_of : Sp := fun vs H Q _ => ∃ (z : Sy) (l : Nat), vs = [.str z, vN l] ∧ l ≤ 300 ∧ Q (vN (wd z l)) H
theorem special_at (T : Txt K mg) (H : Hp) : SqT K H (He.ga K "SPECIAL") [.str sB, .str sQ] := He.tupB_ok (K := K) (vs := [.str "\\", .str "\""]) (Bool.and_eq_true_iff.mp T.x).1 H
theorem inV_special (z : Sy) : inV (.str z) [.str sB, .str sQ] = decide (z = sB ∨ z = sQ) := by
  show ((sB == z) || ((sQ == z) || false)) = _
  rw [Bool.or_false, Bool.beq_eq_decide_eq, Bool.beq_eq_decide_eq, ← Bool.decide_or]
  exact decide_eq_decide.mpr ⟨fun h => h.elim (fun q => .inl q.symm) fun q => .inr q.symm, fun h => h.elim (fun q => .inl q.symm) fun q => .inr q.symm⟩
abbrev n_width_of : List Str := ["symbol", "level"]
theorem sc_width_of : FnScope n_width_of ["symbol", "level"] (defScope s_width_of) := ⟨rfl, rfl, rfl, by decide +kernel, rfl, by decide +kernel, by decide +kernel⟩
theorem ok_width_of (T : Txt K mg) : Cl P w K mg base CX0 "width_of" ["symbol", "level"] 2 [] sp_width_of := by
  obtain ⟨fd, F⟩ := T.def_ 20 (d := d_width_of) rfl
  have C_power_of_two := ok_power_of_two (P := P) (w := w) (base := base) T
  refine cl_ok F (T.glo 17) (fun _ _ _ _ _ _ us hl => match us, hl with | [_, _], _ => rfl) sc_width_of (fun vs H Q E h => ?_) (fun cdv A outer s H vs Q E hr h => ?_)
  · obtain ⟨z, l, rfl, _⟩ := h
    rfl
  · obtain ⟨z, l, rfl, hl, k⟩ := h
    refine ⟨_, (pss_one (ps_ret (pe_ifExp (pt_cmpR (op_in_seqK K) (pv 0) (pe_gr (T.glo 77)) rfl) (pe_cl C_power_of_two (hr.mono (by decide)) (pa_cons (pv 1) pa_nil)) pe_int))), ?_⟩
    refine ⟨_, rfl, _, _, rfl, .inr (special_at T _), rfl, rfl, _, rfl, ?_⟩
    show if inV (.str z) [.str sB, .str sQ] = true then _ else _
    rw [inV_special]
    refine ite2 (fun h => ?_) (fun h => ?_)
    · have h' := of_decide_eq_true h
      refine ⟨_, rfl, l, rfl, hl, ?_⟩
      unfold wd at k
      rw [if_pos h'] at k
      exact k
    · have h' : ¬ (z = sB ∨ z = sQ) := fun q => h (decide_eq_true q)
      unfold wd at k
      rw [if_neg h'] at k
      exact k
end
end Sl


end
section
set_option Elab.async false
set_option linter.all false
set_option maxRecDepth 100000
set_option maxHeartbeats 4000000
namespace Sl
open PySem PySem.Spec PyProof.Rows L2
theorem cut2 (a b c : V) : cutV [a, b, c] none (some 2) = [a, b] := rfl
theorem ncut2 (a b c : V) : ¬ (HT.sIx [a, b, c].length 0 none = 0 ∧ HT.sIx [a, b, c].length [a, b, c].length (some 2) = [a, b, c].length) := fun z => absurd (show (2 : Nat) = 3 from z.2) (by decide)
theorem eqT {r s : List V} (h1 : r.all nsV = true) (h2 : s.all nsV = true) : PyData.eqv (.tuple (r.map pdV)) (.tuple (s.map pdV)) = decide (r = s) := eqv_all h1 h2
theorem ok_ns {r : List V} (h : r.all nsV = true) : r.all okV = true := all_imp (fun _ => okV_of_ns) h
theorem ns2 {z : Sy} (h : Sym z) (n : Nat) : [V.str z, vN n].all nsV = true := by
  show (nsV (.str z) && (true && true)) = true
  rw [sym_nsV h]; rfl
theorem key_eq {j z : Sy} {a b : Nat} : ([V.str j, vN a] = [V.str z, vN b]) ↔ (j, a) = (z, b) := by
  constructor
  · intro h
    injection h with h1 h2
    injection h2 with h2 _
    injection h1 with h1
    rw [h1, vN_inj.mp h2]
  · intro h
    injection h with h1 h2
    rw [h1, h2]
theorem eqE' {bs : List (Ch × Nat)} : PyData.eqv (pdR (enB bs)) (pdR []) = bs.isEmpty := by
  rw [show PyData.eqv (pdR (enB bs)) (pdR []) = (enB bs).isEmpty from eqv_E]
  cases bs <;> rfl
/-- what is_history of a text looks at -/
structure BkOk (bs : List (Ch × Nat)) : Prop where
  pos : ∀ x ∈ bs, 1 ≤ x.2
  lvl : ∀ x ∈ bs, x.1.2 ≤ 200
  sym : ∀ x ∈ bs, Sym x.1.1
  nb : Nb (fun a b => b.1.2 ≤ a.1.2 ∧ ¬ a.1 = b.1) bs
/-- a loop over zip of two lists -/
theorem for_zipM {K : PySem.W.Frag} {a b : Addr} {xs ys : List V} {g : TG} {tb : TS} {D : Ends} {σ : L2.St} {H : Hp} (n : Nat) (hn : n = min xs.length ys.length) (Pv : Nat → L2.St → Hp → Prop) (h0 : Pv 0 σ H) (hq : ∀ i σ H, Pv i σ H → SqL K H a xs ∧ SqL K H b ys)
    (hs : ∀ (i : Nat) (x y : V) (T : Addr) (σ : L2.St) (H : Hp), xs[i]? = some x → ys[i]? = some y → Pv i σ H → H T = none → g (.ref T) σ (upd H T (.tup [x, y])) fun σ2 H2 => tb { D with nx := Pv (i + 1), ct := Pv (i + 1), bk := D.nx } σ2 H2) (hd : ∀ σ H, Pv n σ H → D.nx σ H) :
    ∃ W : Nat → Nat → L2.St → Hp → Prop, (∃ m, W 0 m σ H) ∧ ∀ i m σ H, W i m σ H →
      ((Itz K a b).stop i H ∧ D.nx σ H) ∨ ((Itz K a b).go i H ∧ ∃ N : L2.St → Hp → Prop, (∀ σ' H', N σ' H' → ∃ m', m' < m ∧ W (i + 1) m' σ' H') ∧ ∀ v H', (Itz K a b).yld i H v H' → g v σ H' fun σ2 H2 => tb { D with nx := N, ct := N, bk := D.nx } σ2 H2) := by
  subst hn
  refine ⟨fun i m σ H => m = min xs.length ys.length - i ∧ i ≤ min xs.length ys.length ∧ Pv i σ H, ⟨_, rfl, Nat.zero_le _, h0⟩, ?_⟩
  rintro i m σ H ⟨rfl, hi, p⟩
  obtain ⟨qx, qy⟩ := hq i σ H p
  by_cases hlt : i < min xs.length ys.length
  · have l1 : i < xs.length := by omega
    have l2 : i < ys.length := by omega
    refine .inr ⟨⟨xs, ys, _, _, qx, qy, List.getElem?_eq_getElem l1, List.getElem?_eq_getElem l2⟩, Pv (i + 1), fun σ' H' p' => ⟨min xs.length ys.length - (i + 1), by omega, rfl, hlt, p'⟩, fun v H' y => ?_⟩
    obtain ⟨T, x', y', rfl, hT, rfl, f1, f2⟩ := y
    exact hs i x' y' T σ H (f1 xs qx) (f2 ys qy) p hT
  · have e : i = min xs.length ys.length := by omega
    refine .inl ⟨⟨xs, ys, qx, qy, by omega⟩, ?_⟩
    rw [e] at p
    exact hd σ H p
section
variable {P : Program} {w : World} {K : PySem.W.Frag} {mg : Str → Option Value} {base : Heap}
/-! ### add_block -/
def sp_add_block : Sp := fun vs H Q _ => ∃ (l : Addr) (z : Sy) (lv c : Nat) (bs : List (Ch × Nat)), vs = [.ref l, .str z, vN lv, vN c] ∧ LT H l (enB bs) ∧ (∀ x ∈ bs, Sym x.1.1) ∧ Sym z ∧ bs.length ≤ 100000 ∧ ∀ H', Mod l H H' → LT H' l (enB (addR yes bs (z, lv) c)) → Q .non H'
abbrev n_add_block : List Str := ["blocks", "symbol", "level", "count"]
theorem sc_add_block : FnScope n_add_block ["blocks", "symbol", "level", "count"] (defScope s_add_block) := ⟨rfl, rfl, rfl, by decide +kernel, rfl, by decide +kernel, by decide +kernel⟩
theorem ok_add_block (T : Txt K mg) : Cl P w K mg base CX0 "add_block" ["blocks", "symbol", "level", "count"] 1 [] sp_add_block := by
  obtain ⟨fd, F⟩ := T.def_ 16 (d := d_add_block) rfl
  refine cl_ok F (T.glo 13) (fun _ _ _ _ _ _ us hl => match us, hl with | [_, _, _, _], _ => rfl) sc_add_block (fun vs H Q E h => ?_) (fun cdv A outer s H vs Q E hr h => ?_)
  · obtain ⟨l, z, lv, c, bs, rfl, _⟩ := h
    rfl
  · obtain ⟨l, z, lv, c, bs, rfl, hl, hs, hsz, hz, k⟩ := h
    refine ⟨_, (pss_one (ps_if (PW.pt (pw_and (pt_cmpR oGt (pv 3) pe_int (nomark _)) (pw_and (pt_cmpR (op_neDK K hr.units) (pv 0) (pe_lst pa_nil) (nomark _)) (pw_and1 (pt_cmpR (op_eqDK K hr.units) (pe_slice (sl_tupK K) (pe_ix (ix_listK K) (pv 0) (pe_un un_neg pe_int) (fun _ _ => rfl)) po_none (po_some pe_int)) (pe_tup (pa_cons (pv 1) (pa_cons (pv 2) pa_nil))) (nomark _))))))
        (pss_one (ps_asg (pe_tup (pa_cons (pv 1) (pa_cons (pv 2) (pa_cons (pe_op oAdd (pe_ix (ix_tupK K) (pe_ix (ix_listK K) (pv 0) (pe_un un_neg pe_int) (fun _ _ => rfl)) pe_int (fun _ _ => rfl)) (pv 3)) pa_nil)))) (pg_sub (pv 0) (pe_un un_neg pe_int) set_list)))
        (pss_one (ps_if (pt_cmpR oGt (pv 3) pe_int (nomark _))
          (pss_one (ps_expr (pe_bm PySem.F.plainAttrs_list PySem.F.slot_list_append PySem.F.type_list_append mt_append (pv 0) (pa_cons (pe_tup (pa_cons (pv 1) (pa_cons (pv 2) (pa_cons (pv 3) pa_nil)))) pa_nil))))
          pss_nil)))), ?_⟩
    refine ⟨_, rfl, c, 0, rfl, rfl, _, rfl, ite2 (fun hc => ?_) (fun hc => ?_)⟩
    · have c0 : c ≠ 0 := by have : 0 < c := of_decide_eq_true hc; omega
      refine ⟨_, rfl, z0, fun p np => ?_⟩
      have s1 : Same H (upd H p (.lst [])) := Same.new np
      have hl1 := hl.same s1
      have ok1 : ∀ r ∈ enB bs, r.all okV = true := fun r hr => ok_ns (enB_ns hs r hr)
      -- the last way: the block is put behind the list
      have app : ∀ (H1 : Hp), Same H H1 → ¬ (∃ L d, bs = L ++ [((z, lv), d)]) → tIfS (tTest (tOp (rN0 fun n m => .bl (decide (m < n))) (tVar 3) (tC (.int 0)))) (tDrop (tBM K "list" rAppend (tVar 0) (tCons (tTup (tCons (tVar 1) (tCons (tVar 2) (tCons (tVar 3) tNil)))) tNil))) tNext { nx := fun _ H' => Q .non H', rt := Q } (start n_add_block [.ref l, .str z, vN lv, vN c]) H1 := fun H1 e1 hno => by
        refine ⟨_, rfl, c, 0, rfl, rfl, true, decT (by omega), iteT ?_⟩
        have hl2 := hl.same e1
        obtain ⟨xs, hxs, hxl⟩ := hl2.lst
        rw [enB_len] at hxl
        refine ⟨_, rfl, .inl ⟨rfl, _, SqL.h hxs⟩, _, rfl, _, rfl, _, rfl, z3, fun t nt => ?_⟩
        have s2 : Same H1 (upd H1 t (.tup [.str z, vN lv, vN c])) := Same.new nt
        refine ⟨l, xs, _, rfl, rfl, s2 _ _ hxs, by rw [hxl]; exact slt (by omega), ?_⟩
        refine k _ ((Mod.of_same (e1.trans s2)).trans Mod.upd) ?_
        have : addR yes bs (z, lv) c = bs ++ [((z, lv), c)] := by
          rcases nil_or_snoc bs with e | ⟨L, ⟨j, d⟩, e⟩
          · rw [e, addR_nil _ c0]; rfl
          · rw [e]
            refine addR_other L c0 fun q => hno ⟨L, d, ?_⟩
            rw [e, q.1]
        rw [this, enB_app]
        exact (hl2.same s2).push (s2 _ _ hxs) upd_same
      refine ⟨_, _, hl1.dpo ok1, (LT.nil upd_same).dpo (fun r hr => nomatch hr), shaped_rows ok1, shaped_rows (fun r hr => nomatch hr), ?_⟩
      rcases nil_or_snoc bs with e | ⟨L, ⟨⟨j, jl⟩, d⟩, e⟩
      · subst e
        refine ⟨false, rfl, iteF (iteF ?_)⟩
        exact app _ s1 fun ⟨L, d, q⟩ => by cases L <;> cases q
      · refine ⟨true, congrArg V.bl (by rw [eqE', e]; cases L <;> rfl), iteT ?_⟩
        subst e
        rw [enB_app] at hl1
        obtain ⟨ys, t, e1, e2, e3⟩ := hl1.last
        rw [enB_len] at e3
        have hj : Sym j := hs ((j, jl), d) (by simp)
        refine ⟨_, rfl, 1, rfl, l, _, _, _, rfl, rfl, SqL.h e1, atI_last _ _, 2, rfl, t, _, rfl, SqT.h e2, ncut2 _ _ _, fun u nu => ?_⟩
        have s2 : Same (upd H p (.lst [])) (upd (upd H p (.lst [])) u (.tup [.str j, vN jl])) := Same.new nu
        refine ⟨_, rfl, _, rfl, z2, fun q nq => ?_⟩
        have s3 : Same (upd (upd H p (.lst [])) u (.tup [.str j, vN jl])) (upd (upd (upd H p (.lst [])) u (.tup [.str j, vN jl])) q (.tup [.str z, vN lv])) := Same.new nq
        refine ⟨_, _, tup_dp (r := [.str j, vN jl]) (s3 _ _ upd_same) (ok_ns (ns2 hj jl)), tup_dp (r := [.str z, vN lv]) upd_same (ok_ns (ns2 hsz lv)), shaped_tup (ok_ns (ns2 hj jl)), shaped_tup (ok_ns (ns2 hsz lv)), ?_⟩
        have s23 := s2.trans s3
        refine ⟨decide ((j, jl) = (z, lv)), congrArg V.bl (by rw [eqT (ns2 hj jl) (ns2 hsz lv)]; exact decide_eq_decide.mpr key_eq), ?_⟩
        refine ite2 (fun hjz => ?_) (fun hjz => ?_)
        · obtain ⟨za, zb⟩ := Prod.mk.inj (of_decide_eq_true hjz)
          subst za
          subst zb
          refine ⟨_, rfl, _, rfl, _, rfl, 1, rfl, l, _, _, _, rfl, rfl, SqL.h (s23 _ _ e1), atI_last _ _, t, _, _, _, rfl, rfl, SqT.h (s23 _ _ e2), atI_nat (j := 2) rfl, _, rfl, d, c, rfl, rfl, z3, fun v nv => ?_⟩
          have s4 : Same (upd (upd (upd H p (.lst [])) u (.tup [.str j, vN jl])) q (.tup [.str j, vN jl])) (upd (upd (upd (upd H p (.lst [])) u (.tup [.str j, vN jl])) q (.tup [.str j, vN jl])) v (.tup [.str j, vN jl, vN (d + c)])) := Same.new nv
          have s14 := (s1.trans s23).trans s4
          have e1' := s4 _ _ (s23 _ _ e1)
          refine ⟨_, rfl, 1, rfl, l, _, _, ys.length, rfl, rfl, e1', (by rw [List.length_append]; exact ixN_last), ?_⟩
          refine k _ ((Mod.of_same s14).trans Mod.upd) ?_
          rw [addR_same L rfl, enB_app]
          have q := (hl1.same (s23.trans s4)).put (i := ys.length) e1' (r := [.str j, vN jl, vN (d + c)]) (p := v) upd_same
          have e4 : (enB L ++ enB [((j, jl), d)]).set ys.length [.str j, vN jl, vN (d + c)] = enB L ++ enB [((j, jl), d + c)] := by
            have e5 := set_last (enB L) [.str j, vN jl, vN d] [.str j, vN jl, vN (d + c)]
            rw [enB_len, ← e3] at e5
            exact e5
          rw [e4] at q
          exact q
        · exact app _ (s1.trans s23) fun ⟨L', d', q⟩ => hjz (decide_eq_true (by
            have := congrArg List.getLast? q
            rw [List.getLast?_concat, List.getLast?_concat] at this
            injection this with this
            injection this with this))
    · have c0 : c = 0 := Nat.le_zero.mp (Nat.le_of_not_lt fun q => hc (decide_eq_true q))
      subst c0
      refine iteF ?_
      refine ⟨_, rfl, 0, 0, rfl, rfl, false, rfl, iteF ?_⟩
      refine k H Mod.refl ?_
      rw [addR_zero]; exact hl
/-! ### add_piece -/
def sp_add_piece : Sp := fun vs H Q _ => ∃ (l : Addr) (z : Sy) (lv c : Nat) (bs : List (Ch × Nat)), vs = [.ref l, .str z, vN lv, vN c] ∧ LT H l (enB bs) ∧ (∀ x ∈ bs, Sym x.1.1) ∧ Sym z ∧ bs.length ≤ 100000 ∧ ∀ H', Mod l H H' → LT H' l (enB (addR mgP bs (z, lv) c)) → Q .non H'
abbrev n_add_piece : List Str := ["pieces", "symbol", "size", "many"]
theorem sc_add_piece : FnScope n_add_piece ["pieces", "symbol", "size", "many"] (defScope s_add_piece) := ⟨rfl, rfl, rfl, by decide +kernel, rfl, by decide +kernel, by decide +kernel⟩
theorem ok_add_piece (T : Txt K mg) : Cl P w K mg base CX0 "add_piece" ["pieces", "symbol", "size", "many"] 1 [] sp_add_piece := by
  obtain ⟨fd, F⟩ := T.def_ 21 (d := d_add_piece) rfl
  refine cl_ok F (T.glo 18) (fun _ _ _ _ _ _ us hl => match us, hl with | [_, _, _, _], _ => rfl) sc_add_piece (fun vs H Q E h => ?_) (fun cdv A outer s H vs Q E hr h => ?_)
  · obtain ⟨l, z, lv, c, bs, rfl, _⟩ := h
    rfl
  · obtain ⟨l, z, lv, c, bs, rfl, hl, hs, hsz, hz, k⟩ := h
    refine ⟨_, (pss_one (ps_if (PW.pt (pw_and (pt_cmpR oGt (pv 3) pe_int (nomark _)) (pw_and (pt_cmpR oNeS (pv 1) (pe_gs (T.str 104)) (nomark _)) (pw_and (pt_cmpR (op_neDK K hr.units) (pv 0) (pe_lst pa_nil) (nomark _)) (pw_and1 (pt_cmpR (op_eqDK K hr.units) (pe_slice (sl_tupK K) (pe_ix (ix_listK K) (pv 0) (pe_un un_neg pe_int) (fun _ _ => rfl)) po_none (po_some pe_int)) (pe_tup (pa_cons (pv 1) (pa_cons (pv 2) pa_nil))) (nomark _)))))))
        (pss_one (ps_asg (pe_tup (pa_cons (pv 1) (pa_cons (pv 2) (pa_cons (pe_op oAdd (pe_ix (ix_tupK K) (pe_ix (ix_listK K) (pv 0) (pe_un un_neg pe_int) (fun _ _ => rfl)) pe_int (fun _ _ => rfl)) (pv 3)) pa_nil)))) (pg_sub (pv 0) (pe_un un_neg pe_int) set_list)))
        (pss_one (ps_if (pt_cmpR oGt (pv 3) pe_int (nomark _))
          (pss_one (ps_expr (pe_bm PySem.F.plainAttrs_list PySem.F.slot_list_append PySem.F.type_list_append mt_append (pv 0) (pa_cons (pe_tup (pa_cons (pv 1) (pa_cons (pv 2) (pa_cons (pv 3) pa_nil)))) pa_nil))))
          pss_nil)))), ?_⟩
    refine ⟨_, rfl, c, 0, rfl, rfl, _, rfl, ite2 (fun hc => ?_) (fun hc => ?_)⟩
    · have c0 : c ≠ 0 := by have : 0 < c := of_decide_eq_true hc; omega
      have app : ∀ (H1 : Hp), Same H H1 → ¬ (mgP (z, lv) = true ∧ ∃ L d, bs = L ++ [((z, lv), d)]) → tIfS (tTest (tOp (rN0 fun n m => .bl (decide (m < n))) (tVar 3) (tC (.int 0)))) (tDrop (tBM K "list" rAppend (tVar 0) (tCons (tTup (tCons (tVar 1) (tCons (tVar 2) (tCons (tVar 3) tNil)))) tNil))) tNext { nx := fun _ H' => Q .non H', rt := Q } (start n_add_piece [.ref l, .str z, vN lv, vN c]) H1 := fun H1 e1 hno => by
        refine ⟨_, rfl, c, 0, rfl, rfl, true, decT (by omega), iteT ?_⟩
        have hl2 := hl.same e1
        obtain ⟨xs, hxs, hxl⟩ := hl2.lst
        rw [enB_len] at hxl
        refine ⟨_, rfl, .inl ⟨rfl, _, SqL.h hxs⟩, _, rfl, _, rfl, _, rfl, z3, fun t nt => ?_⟩
        have s2 : Same H1 (upd H1 t (.tup [.str z, vN lv, vN c])) := Same.new nt
        refine ⟨l, xs, _, rfl, rfl, s2 _ _ hxs, by rw [hxl]; exact slt (by omega), ?_⟩
        refine k _ ((Mod.of_same (e1.trans s2)).trans Mod.upd) ?_
        have : addR mgP bs (z, lv) c = bs ++ [((z, lv), c)] := by
          rcases nil_or_snoc bs with e | ⟨L, ⟨j, d⟩, e⟩
          · rw [e, addR_nil _ c0]; rfl
          · rw [e]
            refine addR_other L c0 fun q => hno ⟨q.2, L, d, ?_⟩
            rw [e, q.1]
        rw [this, enB_app]
        exact (hl2.same s2).push (s2 _ _ hxs) upd_same
      refine ⟨_, rfl, z, sB, rfl, rfl, _, rfl, ite2 (fun hB => ?_) (fun hB => ?_)⟩
      · have zB : z ≠ sB := by simpa using hB
        refine ⟨_, rfl, z0, fun p np => ?_⟩
        have s1 : Same H (upd H p (.lst [])) := Same.new np
        have hl1 := hl.same s1
        have ok1 : ∀ r ∈ enB bs, r.all okV = true := fun r hr => ok_ns (enB_ns hs r hr)
        refine ⟨_, _, hl1.dpo ok1, (LT.nil upd_same).dpo (fun r hr => nomatch hr), shaped_rows ok1, shaped_rows (fun r hr => nomatch hr), ?_⟩
        rcases nil_or_snoc bs with e | ⟨L, ⟨⟨j, jl⟩, d⟩, e⟩
        · subst e
          refine ⟨false, rfl, iteF (iteF ?_)⟩
          exact app _ s1 fun ⟨_, L, d, q⟩ => by cases L <;> cases q
        · refine ⟨true, congrArg V.bl (by rw [eqE', e]; cases L <;> rfl), iteT ?_⟩
          subst e
          rw [enB_app] at hl1
          obtain ⟨ys, t, e1, e2, e3⟩ := hl1.last
          rw [enB_len] at e3
          have hj : Sym j := hs ((j, jl), d) (by simp)
          refine ⟨_, rfl, 1, rfl, l, _, _, _, rfl, rfl, SqL.h e1, atI_last _ _, 2, rfl, t, _, rfl, SqT.h e2, ncut2 _ _ _, fun u nu => ?_⟩
          have s2 : Same (upd H p (.lst [])) (upd (upd H p (.lst [])) u (.tup [.str j, vN jl])) := Same.new nu
          refine ⟨_, rfl, _, rfl, z2, fun q nq => ?_⟩
          have s3 : Same (upd (upd H p (.lst [])) u (.tup [.str j, vN jl])) (upd (upd (upd H p (.lst [])) u (.tup [.str j, vN jl])) q (.tup [.str z, vN lv])) := Same.new nq
          refine ⟨_, _, tup_dp (r := [.str j, vN jl]) (s3 _ _ upd_same) (ok_ns (ns2 hj jl)), tup_dp (r := [.str z, vN lv]) upd_same (ok_ns (ns2 hsz lv)), shaped_tup (ok_ns (ns2 hj jl)), shaped_tup (ok_ns (ns2 hsz lv)), ?_⟩
          have s23 := s2.trans s3
          refine ⟨decide ((j, jl) = (z, lv)), congrArg V.bl (by rw [eqT (ns2 hj jl) (ns2 hsz lv)]; exact decide_eq_decide.mpr key_eq), ?_⟩
          refine ite2 (fun hjz => ?_) (fun hjz => ?_)
          · obtain ⟨za, zb⟩ := Prod.mk.inj (of_decide_eq_true hjz)
            subst za
            subst zb
            refine ⟨_, rfl, _, rfl, _, rfl, 1, rfl, l, _, _, _, rfl, rfl, SqL.h (s23 _ _ e1), atI_last _ _, t, _, _, _, rfl, rfl, SqT.h (s23 _ _ e2), atI_nat (j := 2) rfl, _, rfl, d, c, rfl, rfl, z3, fun v nv => ?_⟩
            have s4 : Same (upd (upd (upd H p (.lst [])) u (.tup [.str j, vN jl])) q (.tup [.str j, vN jl])) (upd (upd (upd (upd H p (.lst [])) u (.tup [.str j, vN jl])) q (.tup [.str j, vN jl])) v (.tup [.str j, vN jl, vN (d + c)])) := Same.new nv
            have s14 := (s1.trans s23).trans s4
            have e1' := s4 _ _ (s23 _ _ e1)
            refine ⟨_, rfl, 1, rfl, l, _, _, ys.length, rfl, rfl, e1', (by rw [List.length_append]; exact ixN_last), ?_⟩
            refine k _ ((Mod.of_same s14).trans Mod.upd) ?_
            rw [addR_same L (mgP_ne zB), enB_app]
            have q := (hl1.same (s23.trans s4)).put (i := ys.length) e1' (r := [.str j, vN jl, vN (d + c)]) (p := v) upd_same
            have e4 : (enB L ++ enB [((j, jl), d)]).set ys.length [.str j, vN jl, vN (d + c)] = enB L ++ enB [((j, jl), d + c)] := by
              have e5 := set_last (enB L) [.str j, vN jl, vN d] [.str j, vN jl, vN (d + c)]
              rw [enB_len, ← e3] at e5
              exact e5
            rw [e4] at q
            exact q
          · exact app _ (s1.trans s23) fun ⟨_, L', d', q⟩ => hjz (decide_eq_true (by
              have := congrArg List.getLast? q
              rw [List.getLast?_concat, List.getLast?_concat] at this
              injection this with this
              injection this with this))
      · have zB : z = sB := by simpa using hB
        refine iteF ?_
        refine app H (Same.refl H) fun q => ?_
        rw [zB, mgP_B] at q
        cases q.1
    · have c0 : c = 0 := Nat.le_zero.mp (Nat.le_of_not_lt fun q => hc (decide_eq_true q))
      subst c0
      refine iteF ?_
      refine ⟨_, rfl, 0, 0, rfl, rfl, false, rfl, iteF ?_⟩
      refine k H Mod.refl ?_
      rw [addR_zero]; exact hl
end
end Sl


end
section
set_option Elab.async false
set_option linter.all false
set_option maxRecDepth 100000
set_option maxHeartbeats 4000000
namespace Sl
open PySem PySem.Spec PyProof.Rows L2
theorem cut1 (xs : List V) : cutV xs (some 1) none = xs.drop 1 := by
  unfold cutV
  rw [show HT.sIx xs.length 0 (some 1) = min 1 xs.length from HT.sIx_nat xs.length 0 1, HT.sIx_none]
  cases xs with
  | nil => rfl
  | cons x r =>
    rw [show min 1 (x :: r).length = 1 by
      rw [List.length_cons]
      omega]
    show (List.take ((x :: r).length - 1) r) = r
    rw [List.length_cons, Nat.add_sub_cancel]
    exact List.take_length
theorem take_more {α : Type} {l : List α} {i : Nat} {x : α} (h : l[i]? = some x) : l.take (i + 1) = l.take i ++ [x] := by
  rw [List.take_add_one, h]; rfl
theorem exB_more {κ : Type} [DecidableEq κ] {bs : List (κ × Nat)} {i : Nat} {x : κ × Nat} (h : bs[i]? = some x) : exR (bs.take (i + 1)) = exR (bs.take i) ++ List.replicate x.2 x.1 := by
  rw [take_more h, exR_app, exR_one]
theorem lvs_mem {bs : List (Ch × Nat)} {x : Ch × Nat} (h : x ∈ bs) : x.2 * wd x.1.1 x.1.2 ≤ (lvs (exR bs)).length := by
  obtain ⟨a, b, rfl⟩ := List.append_of_mem h
  rw [exR_app, exR_cons, lvs_app, lvs_app]
  have : lvs (List.replicate x.2 x.1) = List.replicate (x.2 * wd x.1.1 x.1.2) x.1.2 := lvs_rep x.1.1 x.1.2 x.2
  rw [this]
  simp only [List.length_append, List.length_replicate]
  omega
theorem scn_sym : ∀ {cs : List Ch}, (∀ c ∈ cs, Sym c.1) → ∀ u ∈ (scn cs).1, Sym u.1 := by
  intro cs
  induction cs using snoc_ind with
  | h0 => intro _ u hu; cases hu
  | h1 l c ih =>
    intro h u hu
    have hl := ih fun d hd => h d (List.mem_append_left _ hd)
    have hc := h c (by simp)
    rw [scn_snoc] at hu
    unfold scs at hu
    by_cases hB : c.1 = sB
    · rw [if_pos hB] at hu; exact hl u hu
    · rw [if_neg hB] at hu
      by_cases hQ : c.1 = sQ
      · rw [if_pos hQ] at hu
        rcases List.mem_append.mp hu with z | z
        · exact hl u z
        · rw [List.mem_singleton.mp z]; exact .inr (.inl rfl)
      · rw [if_neg hQ] at hu
        rcases List.mem_append.mp hu with z | z
        · rcases List.mem_append.mp z with z | z
          · exact hl u z
          · unfold fl at z
            split at z
            · cases z
            · rw [List.mem_singleton.mp z]; exact .inl rfl
        · rw [List.mem_singleton.mp z]; exact hc
theorem mem_exR1 {κ : Type} {bs : List (κ × Nat)} {k : κ} (h : k ∈ exR bs) : ∃ x ∈ bs, x.1 = k := by
  obtain ⟨x, hx, e⟩ := List.mem_flatMap.mp h
  exact ⟨x, hx, (List.eq_of_mem_replicate e).symm⟩
theorem mem_take {α : Type} {l : List α} {i : Nat} {x : α} (h : x ∈ l.take i) : x ∈ l := List.mem_of_mem_take h
theorem wd_le {z : Sy} {l m : Nat} (h : l ≤ m) : wd z l ≤ 2 ^ m := by
  unfold wd
  split
  · exact Nat.pow_le_pow_right (by decide) h
  · exact Nat.one_le_two_pow
/-- int(w > 0) -/
def jn (w : Nat) : Nat := if 0 < w then 1 else 0
theorem jn_v (w : Nat) : V.int (if decide (0 < w) = true then 1 else 0) = vN (jn w) := by
  unfold jn
  by_cases h : 0 < w
  · rw [if_pos (decide_eq_true h), if_pos h]; rfl
  · rw [if_neg (by simpa using h), if_neg h]; rfl
theorem fl_rep (w : Nat) : fl w = List.replicate (jn w) (sB, w) := by
  unfold fl jn
  by_cases h : 0 < w
  · rw [if_neg (by omega), if_pos h]; rfl
  · rw [if_pos (by omega), if_neg h]; rfl
theorem jn_le (w : Nat) : jn w ≤ 1 := by unfold jn; split <;> omega
structure BsOk (bs : List (Ch × Nat)) : Prop where
  pos : ∀ x ∈ bs, 1 ≤ x.2
  lvl : ∀ x ∈ bs, x.1.2 ≤ 200
  sym : ∀ x ∈ bs, Sym x.1.1
  len : (lvs (exR bs)).length < 2 ^ 300
  num : bs.length ≤ 30000
section
variable {P : Program} {w : World} {K : PySem.W.Frag} {mg : Str → Option Value} {base : Heap}
/-! ### is_block, are_blocks, checked_blocks -/
def sp_is_block : Sp := fun vs H Q _ => ∃ (a : Addr) (z : Sy) (lv c : Nat), vs = [.ref a] ∧ H a = some (.tup [.str z, vN lv, vN c]) ∧ Sym z ∧ lv ≤ 200 ∧ 1 ≤ c ∧ ∀ H', Same H H' → Q (.bl true) H'
abbrev n_is_block : List Str := ["value"]
theorem sc_is_block : FnScope n_is_block ["value"] (defScope s_is_block) := ⟨rfl, rfl, rfl, by decide +kernel, rfl, by decide +kernel, by decide +kernel⟩
theorem ok_is_block (T : Txt K mg) : Cl P w K mg base CX0 "is_block" ["value"] 4 [] sp_is_block := by
  obtain ⟨fd, F⟩ := T.def_ 17 (d := d_is_block) rfl
  have C_is_text := ok_is_text (P := P) (w := w) (base := base) T
  have C_is_integer2 := ok_is_integer2 (P := P) (w := w) (base := base) T
  have C_is_integer3 := ok_is_integer3 (P := P) (w := w) (base := base) T
  refine cl_ok F (T.glo 14) (fun _ _ _ _ _ _ us hl => match us, hl with | [_], _ => rfl) sc_is_block (fun vs H Q E h => ?_) (fun cdv A outer s H vs Q E hr h => ?_)
  · obtain ⟨a, z, lv, c, rfl, _⟩ := h
    rfl
  · obtain ⟨a, z, lv, c, rfl, ha, hz, hlv, hc, k⟩ := h
    refine ⟨_, (pss_cons (ps_if (PW.pt (pw_or (pt_not (pt_val (pe_callB (call_isiTK K) (by rfl) (T.free 84) bt_isinstance (pa_cons (pv 0) (pa_cons (pe_tup (pa_cons (pe_ty (T.free 88) bt_list) (pa_cons (pe_ty (T.free 89) bt_tuple) pa_nil))) pa_nil))))) (pw_or (pt_cmpR oNe (pe_callB (call_len_seqK K) (by rfl) (T.free 83) bt_len (pa_cons (pv 0) pa_nil)) pe_int (nomark _)) (pw_or1 (pt_not (pt_val (pe_cl C_is_text (hr.mono (by decide)) (pa_cons (pe_lst (pa_cons (pe_tup (pa_cons (pe_ix (ix_tupK K) (pv 0) pe_int (fun _ _ => rfl)) (pa_cons pe_int pa_nil))) pa_nil)) pa_nil))))))))
        (pss_one (ps_ret pe_bl))
        pss_nil)
      (pss_one (ps_ret (pe_and (pe_cl C_is_integer3 (hr.mono (by decide)) (pa_cons (pe_ix (ix_tupK K) (pv 0) pe_int (fun _ _ => rfl)) (pa_cons pe_int (pa_cons (pe_gi (T.int 102)) pa_nil)))) (pe_one (pe_cl C_is_integer2 (hr.mono (by decide)) (pa_cons (pe_ix (ix_tupK K) (pv 0) pe_int (fun _ _ => rfl)) (pa_cons pe_int pa_nil)))))))), ?_⟩
    refine ⟨_, rfl, z2, fun p np => ?_⟩
    have s1 : Same H (upd H p (.tup [.ty "list", .ty "tuple"])) := Same.new np
    have ha1 := s1 _ _ ha
    refine ⟨_, p, _, _, _, true, rfl, upd_same, .cons (.ty _) (.cons (.ty _) .nil), .base (.tup ha1), ka_t, true, rfl, ?_⟩
    refine iteF ⟨_, rfl, a, _, rfl, .inr (SqT.h ha1), 3, 3, rfl, rfl, false, rfl, iteF ?_⟩
    refine ⟨_, rfl, a, _, _, _, rfl, rfl, SqT.h ha1, atI_nat (j := 0) rfl, z2, fun t nt => ⟨z1, fun l nl => ?_⟩⟩
    have s2 : Same (upd H p (.tup [.ty "list", .ty "tuple"])) (upd (upd H p (.tup [.ty "list", .ty "tuple"])) t (.tup [.str z, .int 1])) := Same.new nt
    have s3 : Same (upd (upd H p (.tup [.ty "list", .ty "tuple"])) t (.tup [.str z, .int 1])) (upd (upd (upd H p (.tup [.ty "list", .ty "tuple"])) t (.tup [.str z, .int 1])) l (.lst [.ref t])) := Same.new nl
    refine ⟨l, [(z, 1)], rfl, ⟨_, upd_same, .cons ⟨t, rfl, s3 _ _ upd_same⟩ .nil⟩, ⟨⟨fun x hx => ?_, ⟨fun b e => (nomatch e), trivial⟩⟩, fun x hx => ?_⟩, (show 1 ≤ 100000 by decide), fun H4 s4 => ⟨true, rfl, iteF ?_⟩⟩
    · rw [List.mem_singleton.mp hx]; exact Nat.le_refl 1
    · rw [List.mem_singleton.mp hx]; exact hz
    · have s13 := ((s1.trans s2).trans s3).trans s4
      have ha4 := s13 _ _ ha
      refine ⟨_, rfl, a, _, _, _, rfl, rfl, SqT.h ha4, atI_nat (j := 1) rfl, lv, 0, some 200, rfl, true, ?_, iteT ?_⟩
      · show V.bl (decide (0 ≤ lv) && decide (lv ≤ 200)) = _
        rw [decide_eq_true (Nat.zero_le lv), decide_eq_true hlv]; rfl
      · refine ⟨_, rfl, a, _, _, _, rfl, rfl, SqT.h ha4, atI_nat (j := 2) rfl, c, 1, none, rfl, ?_⟩
        have e : inB c 1 none = true := decide_eq_true hc
        show Q (.bl (inB c 1 none)) _
        rw [e]; exact k _ s13
def sp_are_blocks : Sp := fun vs H Q _ => ∃ (a : Addr) (bs : List (Ch × Nat)), vs = [.ref a] ∧ LT H a (enB bs) ∧ BkOk bs ∧ bs.length ≤ 100000 ∧ ∀ H', Same H H' → Q (.bl true) H'
abbrev n_are_blocks : List Str := ["value", "block", "one", "other"]
theorem sc_are_blocks : FnScope n_are_blocks ["value"] (defScope s_are_blocks) := ⟨rfl, rfl, rfl, by decide +kernel, rfl, by decide +kernel, by decide +kernel⟩
theorem ok_are_blocks (T : Txt K mg) : Cl P w K mg base CX0 "are_blocks" ["value"] 5 [] sp_are_blocks := by
  obtain ⟨fd, F⟩ := T.def_ 18 (d := d_are_blocks) rfl
  have C_is_block := ok_is_block (P := P) (w := w) (base := base) T
  refine cl_ok F (T.glo 15) (fun _ _ _ _ _ _ us hl => match us, hl with | [_], _ => rfl) sc_are_blocks (fun vs H Q E h => ?_) (fun cdv A outer s H vs Q E hr h => ?_)
  · obtain ⟨a, bs, rfl, _⟩ := h
    rfl
  · obtain ⟨a, bs, rfl, ha, ho, hz, k⟩ := h
    refine ⟨_, (pss_cons (ps_if (PW.pt (pw_or (pt_not (pt_val (pe_callB (call_isiTK K) (by rfl) (T.free 84) bt_isinstance (pa_cons (pv 0) (pa_cons (pe_tup (pa_cons (pe_ty (T.free 88) bt_list) (pa_cons (pe_ty (T.free 89) bt_tuple) pa_nil))) pa_nil))))) (pw_or1 (pt_not (pt_val (pe_callB (cr_allK K rfl) (by rfl) (T.free 81) bt_all (pa_cons (pe_lc (own := [("block", 1)]) (g := (gName 1)) (tt := tYes) rfl sc_are_blocks.nd (pi_list (pv 0)) (blkOk_by (N := n_are_blocks) (sc := defScope s_are_blocks) (by decide +kernel)) (fun _ _ _ _ _ => (pg_name (i := 1) sc_are_blocks.nd rfl (Or.inl rfl))) (fun _ _ _ _ _ => pts_nil) (fun _ _ _ _ _ => (pe_cl C_is_block (hr.mono (by decide)) (pa_cons (pv 1) pa_nil)))) pa_nil)))))))
        (pss_one (ps_ret pe_bl))
        pss_nil)
      (pss_cons (ps_for PassesOwn.never rfl (pi_zip (by rfl) (T.free 92) (pa_cons (pv 0) (pa_cons (pe_slice (sl_listK K) (pv 0) (po_some pe_int) po_none) pa_nil))) (pg_tup rfl (pgs_cons (pg_name (i := 2) sc_are_blocks.nd rfl (Or.inl rfl)) (pgs_cons (pg_name (i := 3) sc_are_blocks.nd rfl (Or.inl rfl)) pgs_nil)))
        (pss_one (ps_if (PW.pt (pw_or (pt_cmpR oLt (pe_ix (ix_tupK K) (pv 2) pe_int (fun _ _ => rfl)) (pe_ix (ix_tupK K) (pv 3) pe_int (fun _ _ => rfl)) (nomark _)) (pw_or1 (pt_cmpR (op_eqDK K hr.units) (pe_tup (pa_cons (pe_ix (ix_tupK K) (pv 2) pe_int (fun _ _ => rfl)) (pa_cons (pe_ix (ix_tupK K) (pv 2) pe_int (fun _ _ => rfl)) pa_nil))) (pe_tup (pa_cons (pe_ix (ix_tupK K) (pv 3) pe_int (fun _ _ => rfl)) (pa_cons (pe_ix (ix_tupK K) (pv 3) pe_int (fun _ _ => rfl)) pa_nil))) (nomark _)))))
          (pss_one (ps_ret pe_bl))
          pss_nil)))
      (pss_one (ps_ret pe_bl)))), ?_⟩
    refine ⟨_, rfl, z2, fun p np => ?_⟩
    have s1 : Same H (upd H p (.tup [.ty "list", .ty "tuple"])) := Same.new np
    have ha1 := ha.same s1
    obtain ⟨xs, hxs, hxl⟩ := ha1.lst
    rw [enB_len] at hxl
    refine ⟨_, p, _, _, _, true, rfl, upd_same, .cons (.ty _) (.cons (.ty _) .nil), .base (.lst hxs), ka_l, true, rfl, iteF ?_⟩
    refine ⟨_, rfl, a, rfl, ⟨_, SqL.h hxs⟩, fun D nD => lcL_flat (xs := xs) (fun _ => some (.bl true)) (by omega) nD (SqL.h hxs) (fun i x H2 hx s2 Qc Qn t => ?_) fun H2 s2 hD => ?_⟩
    · obtain ⟨r, t0, e1, rfl, e3⟩ := (ha1.same s2).row (s2 _ _ hxs) hx
      obtain ⟨y, e4, rfl⟩ := enB_get e1
      have mem := List.mem_of_getElem? e4
      exact El.name ⟨_, rfl, t0, _, _, _, rfl, e3, ho.sym _ mem, ho.lvl _ mem, ho.pos _ mem, fun H3 s3 => t H3 s3⟩
    · refine ⟨D, List.replicate xs.length true, rfl, by rw [← fm_true]; exact SqL.h hD, true, congrArg V.bl (all_true _), iteF ?_⟩
      have ha2 := ha1.same s2
      have hxs2 := s2 _ _ hxs
      refine ⟨_, rfl, _, rfl, 1, rfl, a, _, rfl, SqL.h hxs2, fun q nq => ?_⟩
      have s3 : Same H2 (upd H2 q (.lst (cutV xs (some 1) none))) := Same.new nq
      have ha3 := ha2.same s3
      have hxs3 := s3 _ _ hxs2
      have hq : (upd H2 q (.lst (cutV xs (some 1) none))) q = some (.lst (xs.drop 1)) := by rw [upd_same, cut1]
      have s13 := (s1.trans s2).trans s3
      refine ⟨a, q, xs, xs.drop 1, rfl, SqL.h hxs3, SqL.h hq, for_zipM (K := K) (min xs.length (xs.drop 1).length) rfl (fun i σ H' => Same (upd H2 q (.lst (cutV xs (some 1) none))) H' ∧ ∃ v2 v3, σ = [some (.ref a), none, v2, v3]) ⟨Same.refl _, none, none, rfl⟩ (fun i σ H' h => ⟨SqL.h (h.1 _ _ hxs3), SqL.h (h.1 _ _ hq)⟩) ?_ ?_⟩
      · rintro i x y T σ H' hx hy ⟨sH, v2, v3, rfl⟩ nT
        have sT : Same H' (upd H' T (.tup [x, y])) := Same.new nT
        have ha4 := (ha3.same sH).same sT
        have hxs4 := sT _ _ (sH _ _ hxs3)
        rw [List.getElem?_drop] at hy
        obtain ⟨r1, t1, e1, rfl, e3⟩ := ha4.row hxs4 hx
        obtain ⟨r2, t2, f1, rfl, f3⟩ := ha4.row hxs4 hy
        obtain ⟨⟨⟨y1, y2⟩, y3⟩, e4, rfl⟩ := enB_get e1
        obtain ⟨⟨⟨w1, w2⟩, w3⟩, f4, rfl⟩ := enB_get f1
        have hnb := ho.nb.at e4 (by rw [Nat.add_comm] at f4; exact f4)
        have m1 := ho.sym _ (List.mem_of_getElem? e4)
        have m2 := ho.sym _ (List.mem_of_getElem? f4)
        refine ⟨T, _, rfl, SqT.h upd_same, rfl, _, _, rfl, _, _, rfl, rfl, ?_⟩
        refine ⟨_, rfl, t1, _, _, _, rfl, rfl, SqT.h e3, atI_nat (j := 1) rfl, _, rfl, t2, _, _, _, rfl, rfl, SqT.h f3, atI_nat (j := 1) rfl, y2, w2, rfl, rfl, false, decF (by have : w2 ≤ y2 := hnb.1; omega), iteF ?_⟩
        refine ⟨_, rfl, t1, _, _, _, rfl, rfl, SqT.h e3, atI_nat (j := 0) rfl, _, rfl, t1, _, _, _, rfl, rfl, SqT.h e3, atI_nat (j := 1) rfl, z2, fun u nu => ?_⟩
        have s5 : Same (upd H' T (.tup [.ref t1, .ref t2])) (upd (upd H' T (.tup [.ref t1, .ref t2])) u (.tup [.str y1, vN y2])) := Same.new nu
        refine ⟨_, rfl, t2, _, _, _, rfl, rfl, SqT.h (s5 _ _ f3), atI_nat (j := 0) rfl, _, rfl, t2, _, _, _, rfl, rfl, SqT.h (s5 _ _ f3), atI_nat (j := 1) rfl, z2, fun v nv => ?_⟩
        have s6 : Same (upd (upd H' T (.tup [.ref t1, .ref t2])) u (.tup [.str y1, vN y2])) (upd (upd (upd H' T (.tup [.ref t1, .ref t2])) u (.tup [.str y1, vN y2])) v (.tup [.str w1, vN w2])) := Same.new nv
        refine ⟨_, _, tup_dp (r := [.str y1, vN y2]) (s6 _ _ upd_same) (ok_ns (ns2 m1 y2)), tup_dp (r := [.str w1, vN w2]) upd_same (ok_ns (ns2 m2 w2)), shaped_tup (ok_ns (ns2 m1 y2)), shaped_tup (ok_ns (ns2 m2 w2)), false, congrArg V.bl (by rw [eqT (ns2 m1 y2) (ns2 m2 w2)]; exact decide_eq_false fun q => hnb.2 (key_eq.mp q)), iteF ?_⟩
        exact ⟨((sH.trans sT).trans s5).trans s6, some (.ref t1), some (.ref t2), rfl⟩
      · rintro σ H' ⟨sH, v2, v3, rfl⟩
        exact k _ (s13.trans sH)
def sp_checked_blocks : Sp := fun vs H Q _ => ∃ (a : Addr) (bs : List (Ch × Nat)), vs = [.ref a] ∧ LT H a (enB bs) ∧ BkOk bs ∧ bs.length ≤ 100000 ∧ ∀ H' p, Same H H' → H p = none → LT H' p (enB bs) → Q (.ref p) H'
abbrev n_checked_blocks : List Str := ["history", "block"]
theorem sc_checked_blocks : FnScope n_checked_blocks ["history"] (defScope s_checked_blocks) := ⟨rfl, rfl, rfl, by decide +kernel, rfl, by decide +kernel, by decide +kernel⟩
theorem ok_checked_blocks (T : Txt K mg) : Cl P w K mg base CX0 "checked_blocks" ["history"] 6 [] sp_checked_blocks := by
  obtain ⟨fd, F⟩ := T.def_ 19 (d := d_checked_blocks) rfl
  have C_are_blocks := ok_are_blocks (P := P) (w := w) (base := base) T
  refine cl_ok F (T.glo 16) (fun _ _ _ _ _ _ us hl => match us, hl with | [_], _ => rfl) sc_checked_blocks (fun vs H Q E h => ?_) (fun cdv A outer s H vs Q E hr h => ?_)
  · obtain ⟨a, rs, rfl, _⟩ := h
    rfl
  · obtain ⟨a, rs, rfl, ha, ho, hz, k⟩ := h
    refine ⟨_, (pss_cons (ps_if (pt_not (pt_val (pe_cl C_are_blocks (hr.mono (by decide)) (pa_cons (pv 0) pa_nil))))
        (pss_one ps_never)
        pss_nil)
      (pss_one (ps_ret (pe_lc (own := [("block", 1)]) (g := (gName 1)) (tt := tYes) rfl sc_checked_blocks.nd (pi_list (pv 0)) (blkOk_by (N := n_checked_blocks) (sc := defScope s_checked_blocks) (by decide +kernel)) (fun _ _ _ _ _ => (pg_name (i := 1) sc_checked_blocks.nd rfl (Or.inl rfl))) (fun _ _ _ _ _ => pts_nil) (fun _ _ _ _ _ => (pe_callTy (call_tupleTK K) (by rfl) (T.free 89) bt_tuple (pa_cons (pv 1) pa_nil))))))), ?_⟩
    refine ⟨_, rfl, a, rs, rfl, ha, ho, hz, fun H1 s1 => ⟨true, rfl, iteF ?_⟩⟩
    have ha1 := ha.same s1
    obtain ⟨xs, hxs, hxl⟩ := ha1.lst
    rw [enB_len] at hxl
    refine ⟨_, rfl, a, rfl, ⟨_, SqL.h hxs⟩, fun D nD => lcL_rows (xs := xs) (fun i => (enB rs)[i]?) (by omega) nD (SqL.h hxs) (fun i x H2 hx s2 Qc Qn t => ?_) fun H2 s2 hD => ?_⟩
    · obtain ⟨r, t0, e1, rfl, e3⟩ := (ha1.same s2).row (s2 _ _ hxs) hx
      have t' : ∀ v H', Same H2 H' → RowV H' v r → Qc v H' := by
        unfold TurnR at t
        rw [e1] at t
        exact t
      exact El.name ⟨_, rfl, t0, _, rfl, SqT.h e3, t' _ _ (Same.refl _) ⟨t0, rfl, e3⟩⟩
    · rw [hxl, ← enB_len rs, fm_some] at hD
      exact k H2 D (s1.trans s2) (s1.free nD) hD
/-! ### pieces_of -/
def sp_pieces_of : Sp := fun vs H Q _ => ∃ (a : Addr) (bs : List (Ch × Nat)), vs = [.ref a] ∧ LT H a (enB bs) ∧ BsOk bs ∧ ∀ H' p, Same H H' → H p = none → LT H' p (enB (pcs (prs 0 (exR bs)))) → Q (.ref p) H'
abbrev n_pieces_of : List Str := ["blocks", "pieces", "waiting", "symbol", "level", "count"]
theorem sc_pieces_of : FnScope n_pieces_of ["blocks"] (defScope s_pieces_of) := ⟨rfl, rfl, rfl, by decide +kernel, rfl, by decide +kernel, by decide +kernel⟩
theorem ok_pieces_of (T : Txt K mg) : Cl P w K mg base CX0 "pieces_of" ["blocks"] 3 [] sp_pieces_of := by
  obtain ⟨fd, F⟩ := T.def_ 22 (d := d_pieces_of) rfl
  have C_width_of := ok_width_of (P := P) (w := w) (base := base) T
  have C_add_piece := ok_add_piece (P := P) (w := w) (base := base) T
  refine cl_ok F (T.glo 19) (fun _ _ _ _ _ _ us hl => match us, hl with | [_], _ => rfl) sc_pieces_of (fun vs H Q E h => ?_) (fun cdv A outer s H vs Q E hr h => ?_)
  · obtain ⟨a, bs, rfl, _⟩ := h
    rfl
  · obtain ⟨a, bs, rfl, ha, ho, k⟩ := h
    refine ⟨_, (pss_cons (ps_set (i := 1) sc_pieces_of.nd rfl (Or.inl rfl) (pe_lst pa_nil))
      (pss_cons (ps_set (i := 2) sc_pieces_of.nd rfl (Or.inl rfl) pe_int)
      (pss_cons (ps_for PassesOwn.never rfl (pi_list (pv 0)) (pg_tup rfl (pgs_cons (pg_name (i := 3) sc_pieces_of.nd rfl (Or.inl rfl)) (pgs_cons (pg_name (i := 4) sc_pieces_of.nd rfl (Or.inl rfl)) (pgs_cons (pg_name (i := 5) sc_pieces_of.nd rfl (Or.inl rfl)) pgs_nil))))
        (pss_one (ps_if (pt_cmpR oEqS (pv 3) (pe_gs (T.str 104)) (nomark _))
          (pss_one (ps_aug (i := 2) sc_pieces_of.nd rfl (Or.inl rfl) (pe_op oMul (pv 5) (pe_cl C_width_of (hr.mono (by decide)) (pa_cons (pv 3) (pa_cons (pv 4) pa_nil)))) iAdd))
          (pss_one (ps_if (pt_cmpR oEqS (pv 3) (pe_gs (T.str 105)) (nomark _))
            (pss_cons (ps_expr (pe_cl C_add_piece (hr.mono (by decide)) (pa_cons (pv 1) (pa_cons (pe_gs (T.str 105)) (pa_cons (pe_op oAdd (pv 2) (pe_cl C_width_of (hr.mono (by decide)) (pa_cons (pv 3) (pa_cons (pv 4) pa_nil)))) (pa_cons pe_int pa_nil))))))
            (pss_cons (ps_expr (pe_cl C_add_piece (hr.mono (by decide)) (pa_cons (pv 1) (pa_cons (pe_gs (T.str 105)) (pa_cons (pe_cl C_width_of (hr.mono (by decide)) (pa_cons (pv 3) (pa_cons (pv 4) pa_nil))) (pa_cons (pe_op oSub (pv 5) pe_int) pa_nil))))))
            (pss_one (ps_set (i := 2) sc_pieces_of.nd rfl (Or.inl rfl) pe_int))))
            (pss_cons (ps_expr (pe_cl C_add_piece (hr.mono (by decide)) (pa_cons (pv 1) (pa_cons (pe_gs (T.str 104)) (pa_cons (pv 2) (pa_cons (pe_callTy call_int1 (by rfl) (T.free 85) bt_int (pa_cons (pe_cmpR oGt (pv 2) pe_int (nomark _)) pa_nil)) pa_nil))))))
            (pss_cons (ps_expr (pe_cl C_add_piece (hr.mono (by decide)) (pa_cons (pv 1) (pa_cons (pv 3) (pa_cons pe_int (pa_cons (pv 5) pa_nil))))))
            (pss_one (ps_set (i := 2) sc_pieces_of.nd rfl (Or.inl rfl) pe_int)))))))))
      (pss_cons (ps_expr (pe_cl C_add_piece (hr.mono (by decide)) (pa_cons (pv 1) (pa_cons (pe_gs (T.str 104)) (pa_cons (pv 2) (pa_cons (pe_callTy call_int1 (by rfl) (T.free 85) bt_int (pa_cons (pe_cmpR oGt (pv 2) pe_int (nomark _)) pa_nil)) pa_nil))))))
      (pss_one (ps_ret (pv 1))))))), ?_⟩
    refine ⟨z0, fun l nl => ?_⟩
    have s1 : Same H (upd H l (.lst [])) := Same.new nl
    obtain ⟨xs, hxs, hxl⟩ := ha.lst
    rw [enB_len] at hxl
    have hsc : ∀ i, ∀ u ∈ rn mgP (scn (exR (bs.take i))).1, Sym u.1.1 := fun i u hu => scn_sym (fun c hc => by
      obtain ⟨x, hx, rfl⟩ := mem_exR1 hc
      exact ho.sym x (mem_take hx)) u.1 (mem_rn hu)
    refine ⟨_, rfl, a, rfl, ⟨_, SqL.h (s1 _ _ hxs)⟩, for_list (K := K) (a := a) (xs := xs) (fun i σ H' => Same H H' ∧ ∃ v3 v4 v5, σ = [some (.ref a), some (.ref l), some (vN (scn (exR (bs.take i))).2), v3, v4, v5] ∧ LT H' l (enB (rn mgP (scn (exR (bs.take i))).1)) ∧ (rn mgP (scn (exR (bs.take i))).1).length ≤ 2 * i)
      ⟨s1, none, none, none, rfl, LT.nil upd_same, Nat.le_refl _⟩ (fun i σ H' _ h => SqL.h (h.1 _ _ hxs)) ?_ ?_⟩
    · rintro i x σ H' hx ⟨sH, v3, v4, v5, rfl, hl, hlen⟩
      have hi : i < bs.length := hxl ▸ (List.getElem?_eq_some_iff.mp hx).1
      obtain ⟨r, t0, e1, rfl, e3⟩ := (ha.same sH).row (sH _ _ hxs) hx
      obtain ⟨⟨⟨z, lv⟩, c⟩, e4, rfl⟩ := enB_get e1
      have mem := List.mem_of_getElem? e4
      have hsz := ho.sym _ mem
      have hlv : lv ≤ 200 := ho.lvl _ mem
      have hc1 : 1 ≤ c := ho.pos _ mem
      have hnum := ho.num
      have hcw : c * wd z lv < 2 ^ 300 := Nat.lt_of_le_of_lt (lvs_mem mem) ho.len
      have hw1 := wd_pos z lv
      have hc : c < 2 ^ 400 := p400 (Nat.lt_of_le_of_lt (Nat.le_mul_of_pos_right c hw1) hcw) (by decide)
      have hw : wd z lv < 2 ^ 400 := p400 (Nat.lt_of_le_of_lt (Nat.le_mul_of_pos_left (wd z lv) hc1) hcw) (by decide)
      have em := exB_more e4
      have hsi := hsc i
      generalize hg : exR (bs.take i) = cs at hl hlen hsi em ⊢
      rw [em]
      refine ⟨t0, _, rfl, SqT.h e3, rfl, _, _, rfl, _, _, rfl, _, _, rfl, rfl, ?_⟩
      refine ⟨_, rfl, z, sB, rfl, rfl, _, rfl, ite2 (fun hB => ?_) (fun hB => ?_)⟩
      · have zB := of_decide_eq_true hB
        subst zB
        refine ⟨_, rfl, _, rfl, _, rfl, _, rfl, sB, lv, rfl, by omega, c, _, rfl, rfl, ⟨hc, hw⟩, _, _, rfl, rfl, sH, some (.str sB), some (vN lv), some (vN c), ?_, ?_, ?_⟩
        · rw [scn_B, ← wd_B]; rfl
        · rw [scn_B]; exact hl
        · rw [scn_B]; show (rn mgP (scn cs).1).length ≤ _; omega
      · have zB : z ≠ sB := fun q => hB (decide_eq_true q)
        refine ⟨_, rfl, z, sQ, rfl, rfl, _, rfl, ite2 (fun hQ => ?_) (fun hQ => ?_)⟩
        · have zQ := of_decide_eq_true hQ
          subst zQ
          obtain ⟨c', rfl⟩ : ∃ c', c = c' + 1 := ⟨c - 1, by omega⟩
          refine ⟨_, rfl, _, rfl, _, rfl, _, rfl, sQ, lv, rfl, by omega, _, _, rfl, rfl, l, sQ, (scn cs).2 + wd sQ lv, 1, _, rfl, hl, hsi, .inr (.inl rfl), by omega, fun H2 m2 hl2 => ?_⟩
          have sH2 := m2.same sH nl
          have hl3 : (addR mgP (rn mgP (scn cs).1) (sQ, (scn cs).2 + wd sQ lv) 1).length ≤ 2 * i + 1 := by
            have := (addR_len (mg := mgP) (rn mgP (scn cs).1) (sQ, (scn cs).2 + wd sQ lv) 1).1
            omega
          have hs3 : ∀ x ∈ addR mgP (rn mgP (scn cs).1) (sQ, (scn cs).2 + wd sQ lv) 1, Sym x.1.1 := fun x hx => by
            rcases mem_addR hx with q | q
            · exact hsi x q
            · rw [q]; exact .inr (.inl rfl)
          refine ⟨_, rfl, _, rfl, _, rfl, sQ, lv, rfl, by omega, _, rfl, c' + 1, 1, rfl, rfl, hc1, l, sQ, wd sQ lv, c', _, rfl, hl2, hs3, .inr (.inl rfl), by omega, fun H3 m3 hl4 => ?_⟩
          have sH3 := m3.same sH2 nl
          have hl5 : (addR mgP (addR mgP (rn mgP (scn cs).1) (sQ, (scn cs).2 + wd sQ lv) 1) (sQ, wd sQ lv) c').length ≤ 2 * i + 2 := by
            have := (addR_len (mg := mgP) (addR mgP (rn mgP (scn cs).1) (sQ, (scn cs).2 + wd sQ lv) 1) (sQ, wd sQ lv) c').1
            omega
          have eq : rn mgP ((scn cs).1 ++ [(sQ, (scn cs).2 + 2 ^ lv)] ++ List.replicate c' (sQ, 2 ^ lv)) = addR mgP (addR mgP (rn mgP (scn cs).1) (sQ, (scn cs).2 + wd sQ lv) 1) (sQ, wd sQ lv) c' := by
            rw [rn_rep _ _ (mgP_ne sQB), rn_snoc, wd_Q]
          refine ⟨sH3, some (.str sQ), some (vN lv), some (vN (c' + 1)), ?_, ?_, ?_⟩
          · rw [scn_Q]; rfl
          · rw [scn_Q]; show LT H3 l (enB (rn mgP (_ ++ _ ++ _))); rw [eq]; exact hl4
          · rw [scn_Q]; show (rn mgP (_ ++ _ ++ _)).length ≤ _; rw [eq]; omega
        · have zQ : z ≠ sQ := fun q => hQ (decide_eq_true q)
          obtain ⟨c', rfl⟩ : ∃ c', c = c' + 1 := ⟨c - 1, by omega⟩
          refine ⟨_, rfl, _, rfl, _, rfl, (scn cs).2, 0, rfl, rfl, .inr ⟨_, rfl, l, sB, (scn cs).2, jn (scn cs).2, _, ?_, hl, hsi, .inl rfl, by omega, fun H2 m2 hl2 => ?_⟩⟩
          · show [V.ref l, V.str sB, vN (scn cs).2, V.int (if decide (0 < (scn cs).2) = true then 1 else 0)] = _
            rw [jn_v]
          have sH2 := m2.same sH nl
          have hl3 : (addR mgP (rn mgP (scn cs).1) (sB, (scn cs).2) (jn (scn cs).2)).length ≤ 2 * i + 1 := by
            have := (addR_len (mg := mgP) (rn mgP (scn cs).1) (sB, (scn cs).2) (jn (scn cs).2)).1
            omega
          have hs3 : ∀ x ∈ addR mgP (rn mgP (scn cs).1) (sB, (scn cs).2) (jn (scn cs).2), Sym x.1.1 := fun x hx => by
            rcases mem_addR hx with q | q
            · exact hsi x q
            · rw [q]; exact .inl rfl
          refine ⟨_, rfl, _, rfl, _, rfl, l, z, 1, c' + 1, _, rfl, hl2, hs3, hsz, by omega, fun H3 m3 hl4 => ?_⟩
          have sH3 := m3.same sH2 nl
          have hl5 : (addR mgP (addR mgP (rn mgP (scn cs).1) (sB, (scn cs).2) (jn (scn cs).2)) (z, 1) (c' + 1)).length ≤ 2 * i + 2 := by
            have := (addR_len (mg := mgP) (addR mgP (rn mgP (scn cs).1) (sB, (scn cs).2) (jn (scn cs).2)) (z, 1) (c' + 1)).1
            omega
          have eq : rn mgP ((scn cs).1 ++ fl (scn cs).2 ++ List.replicate (c' + 1) (z, 1)) = addR mgP (addR mgP (rn mgP (scn cs).1) (sB, (scn cs).2) (jn (scn cs).2)) (z, 1) (c' + 1) := by
            rw [rn_rep _ _ (mgP_ne zB), fl_rep, rn_rep1 _ (jn_le _)]
          refine ⟨sH3, some (.str z), some (vN lv), some (vN (c' + 1)), ?_, ?_, ?_⟩
          · rw [scn_P _ _ zB zQ]; rfl
          · rw [scn_P _ _ zB zQ]; show LT H3 l (enB (rn mgP (_ ++ _ ++ _))); rw [eq]; exact hl4
          · rw [scn_P _ _ zB zQ]; show (rn mgP (_ ++ _ ++ _)).length ≤ _; rw [eq]; omega
    · rintro σ H' ⟨sH, v3, v4, v5, rfl, hl, hlen⟩
      have hnum := ho.num
      have hsi := hsc xs.length
      have et : bs.take xs.length = bs := by rw [hxl]; exact List.take_length
      rw [et] at hl hlen hsi ⊢
      refine ⟨_, rfl, _, rfl, _, rfl, (scn (exR bs)).2, 0, rfl, rfl, .inr ⟨_, rfl, l, sB, (scn (exR bs)).2, jn (scn (exR bs)).2, _, ?_, hl, hsi, .inl rfl, by omega, fun H2 m2 hl2 => ?_⟩⟩
      · show [V.ref l, V.str sB, vN (scn (exR bs)).2, V.int (if decide (0 < (scn (exR bs)).2) = true then 1 else 0)] = _
        rw [jn_v]
      · refine ⟨_, rfl, k H2 l (m2.same sH nl) nl ?_⟩
        have eq : pcs (prs 0 (exR bs)) = addR mgP (rn mgP (scn (exR bs)).1) (sB, (scn (exR bs)).2) (jn (scn (exR bs)).2) := by
          unfold pcs
          rw [scn_prs, fl_rep, rn_rep1 _ (jn_le _)]
        rw [eq]; exact hl2
end
end Sl


end
section
set_option Elab.async false
set_option linter.all false
set_option maxRecDepth 100000
set_option maxHeartbeats 4000000
namespace Sl
open PySem PySem.Spec PyProof.Rows L2
section
variable {κ : Type} [DecidableEq κ] {mg : κ → Bool}
theorem rn_mono (xs : List κ) : ∀ ys : List κ, (rn mg xs).length ≤ (rn mg (xs ++ ys)).length := by
  intro ys
  induction ys using snoc_ind with
  | h0 => rw [List.append_nil]; exact Nat.le_refl _
  | h1 l a ih =>
    rw [← List.append_assoc, rn_snoc]
    exact Nat.le_trans ih (addR_len _ _ _).2
theorem exR_take_drop (bs : List (κ × Nat)) (i : Nat) : exR bs = exR (bs.take i) ++ exR (bs.drop i) := by
  rw [← exR_app, List.take_append_drop]
end
theorem tx_app (A B : List Un) : tx (A ++ B) = tx A ++ tx B := List.flatMap_append
theorem tx_sym {U : List Un} (h : ∀ u ∈ U, Sym u.1) : ∀ s ∈ tx U, Sym s := fun s hs => by
  obtain ⟨u, hu, e⟩ := List.mem_flatMap.mp hs
  unfold tch at e
  by_cases hQ : u.1 = sQ
  · rw [if_pos hQ] at e
    rcases List.mem_append.mp e with z | z
    · rw [List.eq_of_mem_replicate z]; exact .inl rfl
    · rw [List.mem_singleton.mp z]; exact .inr (.inl rfl)
  · rw [if_neg hQ] at e
    rw [List.eq_of_mem_replicate e]; exact h u hu
theorem tx_rep1 (s : Sy) : ∀ m, tx (List.replicate m (s, 1)) = List.replicate m s
  | 0 => rfl
  | m + 1 => by
    rw [List.replicate_succ, tx_cons, tx_rep1 s m, List.replicate_succ]
    unfold tch
    by_cases hQ : s = sQ
    · rw [if_pos (show (s, 1).1 = sQ from hQ), hQ]; rfl
    · rw [if_neg (show ¬ (s, 1).1 = sQ from hQ)]; rfl
theorem tx_one (u : Un) : tx [u] = tch u := by
  rw [tx_cons]; exact List.append_nil _
theorem lvs0 : ∀ xs : List Sy, (lvs (ch0 xs)).length = xs.length
  | [] => rfl
  | x :: r => by
    show (List.replicate (wd x 0) 0 ++ lvs (ch0 r)).length = r.length + 1
    rw [List.length_append, List.length_replicate, lvs0 r]
    have : wd x 0 = 1 := by unfold wd; split <;> rfl
    omega
def fb (rs : List (Sy × Nat)) : List (Ch × Nat) := rs.map fun x => ((x.1, 0), x.2)
theorem exR_fb : ∀ rs : List (Sy × Nat), exR (fb rs) = ch0 (exR rs)
  | [] => rfl
  | x :: r => by
    show List.replicate x.2 (x.1, 0) ++ exR (fb r) = ch0 (List.replicate x.2 x.1 ++ exR r)
    rw [exR_fb r, ch0_app, ch0_rep]
/-- pieces of a text -/
structure PcOk (Ps : List Pc) : Prop where
  pos : ∀ x ∈ Ps, 1 ≤ x.2 ∧ 1 ≤ x.1.2
  one : ∀ x ∈ Ps, x.1.1 = sB → x.2 = 1
  pl : ∀ x ∈ Ps, ¬ isG x.1 → x.1.2 = 1
  sym : ∀ x ∈ Ps, Sym x.1.1
  many : ∀ x ∈ Ps, x.1.1 = sQ → x.2 ≤ 10000
section
variable {P : Program} {w : World} {K : PySem.W.Frag} {mg : Str → Option Value} {base : Heap}
/-! ### pieces_of_text -/
def sp_pieces_of_text : Sp := fun vs H Q _ => ∃ (a : Addr) (rs : List (Sy × Nat)), vs = [.ref a] ∧ LT H a (enR rs) ∧ RnOk rs ∧ tsz rs < 2 ^ 300 ∧ rs.length ≤ 30000 ∧ ∀ H' p, Same H H' → H p = none → LT H' p (enB (pcs (prs 0 (ch0 (exR rs))))) → Q (.ref p) H'
abbrev n_pieces_of_text : List Str := ["runs", "symbol", "count"]
theorem sc_pieces_of_text : FnScope n_pieces_of_text ["runs"] (defScope s_pieces_of_text) := ⟨rfl, rfl, rfl, by decide +kernel, rfl, by decide +kernel, by decide +kernel⟩
theorem ok_pieces_of_text (T : Txt K mg) : Cl P w K mg base CX0 "pieces_of_text" ["runs"] 4 [] sp_pieces_of_text := by
  obtain ⟨fd, F⟩ := T.def_ 23 (d := d_pieces_of_text) rfl
  have C_pieces_of := ok_pieces_of (P := P) (w := w) (base := base) T
  refine cl_ok F (T.glo 20) (fun _ _ _ _ _ _ us hl => match us, hl with | [_], _ => rfl) sc_pieces_of_text (fun vs H Q E h => ?_) (fun cdv A outer s H vs Q E hr h => ?_)
  · obtain ⟨a, rs, rfl, _⟩ := h
    rfl
  · obtain ⟨a, rs, rfl, ha, ho, ht, hz, k⟩ := h
    refine ⟨_, (pss_one (ps_ret (pe_cl C_pieces_of (hr.mono (by decide)) (pa_cons (pe_lc (own := [("symbol", 1), ("count", 2)]) (g := (gTup K 2 (gCons (gName 1) (gCons (gName 2) gNil)))) (tt := tYes) rfl sc_pieces_of_text.nd (pi_list (pv 0)) (blkOk_by (N := n_pieces_of_text) (sc := defScope s_pieces_of_text) (by decide +kernel)) (fun _ _ _ _ _ => (pg_tup rfl (pgs_cons (pg_name (i := 1) sc_pieces_of_text.nd rfl (Or.inl rfl)) (pgs_cons (pg_name (i := 2) sc_pieces_of_text.nd rfl (Or.inl rfl)) pgs_nil)))) (fun _ _ _ _ _ => pts_nil) (fun _ _ _ _ _ => (pe_tup (pa_cons (pv 1) (pa_cons pe_int (pa_cons (pv 2) pa_nil)))))) pa_nil)))), ?_⟩
    obtain ⟨xs, hxs, hxl⟩ := ha.lst
    rw [enR_len] at hxl
    refine ⟨_, rfl, a, rfl, ⟨_, SqL.h hxs⟩, fun D nD => lcL_rows (xs := xs) (fun i => (enB (fb rs))[i]?) (by omega) nD (SqL.h hxs) (fun i x H2 hx s2 Qc Qn t => ?_) fun H2 s2 hD => ?_⟩
    · obtain ⟨r, t0, e1, rfl, e3⟩ := (ha.same s2).row (s2 _ _ hxs) hx
      obtain ⟨⟨z, c⟩, e4, rfl⟩ := enR_get e1
      have ef : (enB (fb rs))[i]? = some [.str z, vN 0, vN c] := by
        unfold enB fb
        rw [List.map_map, List.getElem?_map, e4]; rfl
      unfold TurnR at t
      rw [ef] at t
      refine ⟨t0, _, rfl, SqT.h e3, rfl, _, _, rfl, _, _, rfl, rfl, rfl, ?_⟩
      exact ⟨_, rfl, _, rfl, z3, fun u nu => t _ _ (Same.new nu) ⟨u, rfl, upd_same⟩⟩
    · have hfl : (fb rs).length = rs.length := List.length_map ..
      rw [hxl, ← hfl, ← enB_len (fb rs), fm_some] at hD
      refine ⟨D, fb rs, rfl, hD, ⟨fun x hx => ?_, fun x hx => ?_, fun x hx => ?_, ?_, by omega⟩, fun H3 p s3 np h3 => ?_⟩
      · obtain ⟨y, hy, rfl⟩ := List.mem_map.mp hx
        exact ho.wr.pos y hy
      · obtain ⟨y, hy, rfl⟩ := List.mem_map.mp hx
        exact Nat.zero_le _
      · obtain ⟨y, hy, rfl⟩ := List.mem_map.mp hx
        exact ho.sym y hy
      · rw [exR_fb, lvs0, ← tsz_ex]; exact ht
      · rw [exR_fb] at h3
        exact k H3 p (s2.trans s3) (s2.free np) h3
/-! ### text_by -/
def sp_text_by : Sp := fun vs H Q _ => ∃ (a : Addr) (Ps : List Pc), vs = [.ref a] ∧ LT H a (enB Ps) ∧ PcOk Ps ∧ (rn yes (tx (exR Ps))).length ≤ 50000 ∧ ∀ H' p, Same H H' → H p = none → LT H' p (enR (rn yes (tx (exR Ps)))) → Q (.ref p) H'
abbrev n_text_by : List Str := ["pieces", "runs", "symbol", "size", "many", "step"]
theorem sc_text_by : FnScope n_text_by ["pieces"] (defScope s_text_by) := ⟨rfl, rfl, rfl, by decide +kernel, rfl, by decide +kernel, by decide +kernel⟩
theorem ok_text_by (T : Txt K mg) : Cl P w K mg base CX0 "text_by" ["pieces"] 2 [] sp_text_by := by
  obtain ⟨fd, F⟩ := T.def_ 24 (d := d_text_by) rfl
  have C_add_run := ok_add_run (P := P) (w := w) (base := base) T
  refine cl_ok F (T.glo 21) (fun _ _ _ _ _ _ us hl => match us, hl with | [_], _ => rfl) sc_text_by (fun vs H Q E h => ?_) (fun cdv A outer s H vs Q E hr h => ?_)
  · obtain ⟨a, rs, rfl, _⟩ := h
    rfl
  · obtain ⟨a, Ps, rfl, ha, ho, hz, k⟩ := h
    refine ⟨_, (pss_cons (ps_set (i := 1) sc_text_by.nd rfl (Or.inl rfl) (pe_lst pa_nil))
      (pss_cons (ps_for PassesOwn.never rfl (pi_list (pv 0)) (pg_tup rfl (pgs_cons (pg_name (i := 2) sc_text_by.nd rfl (Or.inl rfl)) (pgs_cons (pg_name (i := 3) sc_text_by.nd rfl (Or.inl rfl)) (pgs_cons (pg_name (i := 4) sc_text_by.nd rfl (Or.inl rfl)) pgs_nil))))
        (pss_one (ps_if (pt_cmpR oEqS (pv 2) (pe_gs (T.str 104)) (nomark _))
          (pss_one (ps_expr (pe_cl C_add_run (hr.mono (by decide)) (pa_cons (pv 1) (pa_cons (pv 2) (pa_cons (pv 3) pa_nil))))))
          (pss_one (ps_if (PW.pt (pw_or (pt_cmpR oNeS (pv 2) (pe_gs (T.str 105)) (nomark _)) (pw_or1 (pt_cmpR oEq (pv 3) pe_int (nomark _)))))
            (pss_one (ps_expr (pe_cl C_add_run (hr.mono (by decide)) (pa_cons (pv 1) (pa_cons (pv 2) (pa_cons (pv 4) pa_nil))))))
            (pss_one (ps_for PassesOwn.never rfl (pi_range1 (by rfl) (T.free 91) (pa_cons (pv 4) pa_nil)) (pg_name (i := 5) sc_text_by.nd rfl (Or.inl rfl))
              (pss_cons (ps_expr (pe_cl C_add_run (hr.mono (by decide)) (pa_cons (pv 1) (pa_cons (pe_gs (T.str 104)) (pa_cons (pe_op oSub (pv 3) pe_int) pa_nil)))))
              (pss_one (ps_expr (pe_cl C_add_run (hr.mono (by decide)) (pa_cons (pv 1) (pa_cons (pe_gs (T.str 105)) (pa_cons pe_int pa_nil))))))))))))))
      (pss_one (ps_ret (pv 1))))), ?_⟩
    refine ⟨z0, fun l nl => ?_⟩
    have s1 : Same H (upd H l (.lst [])) := Same.new nl
    obtain ⟨xs, hxs, hxl⟩ := ha.lst
    rw [enB_len] at hxl
    have hsym : ∀ u ∈ exR Ps, Sym u.1 := fun u hu => by
      obtain ⟨x, hx, rfl⟩ := mem_exR1 hu
      exact ho.sym x hx
    refine ⟨_, rfl, a, rfl, ⟨_, SqL.h (s1 _ _ hxs)⟩, for_list (K := K) (a := a) (xs := xs) (fun i σ H' => Same H H' ∧ ∃ v2 v3 v4 v5, σ = [some (.ref a), some (.ref l), v2, v3, v4, v5] ∧ LT H' l (enR (rn yes (tx (exR (Ps.take i))))))
      ⟨s1, none, none, none, none, rfl, LT.nil upd_same⟩ (fun i σ H' _ h => SqL.h (h.1 _ _ hxs)) ?_ ?_⟩
    · rintro i x σ H' hx ⟨sH, v2, v3, v4, v5, rfl, hl⟩
      obtain ⟨r, t0, e1, rfl, e3⟩ := (ha.same sH).row (sH _ _ hxs) hx
      obtain ⟨⟨⟨z, sz⟩, m⟩, e4, rfl⟩ := enB_get e1
      have mem := List.mem_of_getElem? e4
      have hsz := ho.sym _ mem
      have hp := ho.pos _ mem
      have hp1 : 1 ≤ m := hp.1
      have hp2 : 1 ≤ sz := hp.2
      have em := exB_more e4
      have len1 : ∀ B, tx (exR Ps) = tx (exR (Ps.take i)) ++ B → ∀ C, (∃ R, C ++ R = tx (exR Ps)) → (rn yes C).length ≤ 50000 := fun B _ C ⟨R, hR⟩ => Nat.le_trans (rn_mono C R) (by rw [hR]; exact hz)
      have full : tx (exR Ps) = tx (exR (Ps.take i)) ++ (tx (List.replicate m (z, sz)) ++ tx (exR (Ps.drop (i + 1)))) := by
        rw [exR_take_drop Ps (i + 1), tx_app, em, tx_app, List.append_assoc]
      have sy : ∀ C, (∃ R, C ++ R = tx (exR Ps)) → ∀ x ∈ rn yes C, Sym x.1 := fun C ⟨R, hR⟩ x hx => tx_sym hsym _ (by rw [← hR]; exact List.mem_append_left _ (mem_rn hx))
      rw [em, tx_app]
      generalize hX : tx (exR (Ps.take i)) = X at hl full len1 ⊢
      have lX : (rn yes X).length ≤ 50000 := len1 _ full X ⟨_, full.symm⟩
      have syX := sy X ⟨_, full.symm⟩
      refine ⟨t0, _, rfl, SqT.h e3, rfl, _, _, rfl, _, _, rfl, _, _, rfl, rfl, ?_⟩
      refine ⟨_, rfl, z, sB, rfl, rfl, _, rfl, ite2 (fun hB => ?_) (fun hB => ?_)⟩
      · have zB := of_decide_eq_true hB
        subst zB
        have m1 : m = 1 := ho.one _ mem rfl
        subst m1
        refine ⟨_, rfl, _, rfl, _, rfl, l, sB, sz, _, rfl, hl, syX, by omega, fun H2 m2 hl2 => ?_⟩
        refine ⟨m2.same sH nl, some (.str sB), some (vN sz), some (vN 1), v5, rfl, ?_⟩
        have : tx (List.replicate 1 (sB, sz)) = List.replicate sz sB := by
          show tx [(sB, sz)] = _
          rw [tx_one]
          exact if_neg sBQ
        rw [this, rn_rep _ _ rfl]
        exact hl2
      · have zB : z ≠ sB := fun q => hB (decide_eq_true q)
        -- one run for all of them
        have flat : sz = 1 → tDrop (tCall sp_add_run [] E0 (tCons (tVar 1) (tCons (tVar 2) (tCons (tVar 4) tNil)))) { nx := fun σ H' => Same H H' ∧ ∃ v2 v3 v4 v5, σ = [some (.ref a), some (.ref l), v2, v3, v4, v5] ∧ LT H' l (enR (rn yes (X ++ tx (List.replicate m (z, sz))))), rt := Q, bk := fun _ _ => False, ct := fun _ _ => False } [some (.ref a), some (.ref l), some (.str z), some (vN sz), some (vN m), v5] H' := fun h1 => by
          subst h1
          refine ⟨_, rfl, _, rfl, _, rfl, l, z, m, _, rfl, hl, syX, by omega, fun H2 m2 hl2 => ?_⟩
          refine ⟨m2.same sH nl, some (.str z), some (vN 1), some (vN m), v5, rfl, ?_⟩
          rw [tx_rep1, rn_rep _ _ rfl]
          exact hl2
        refine ⟨_, rfl, z, sQ, rfl, rfl, _, rfl, ite2 (fun hQ => ?_) (fun hQ => ?_)⟩
        · have zQ : z ≠ sQ := by simpa using hQ
          exact flat (ho.pl _ mem fun q => q.elim zB zQ)
        · have zQ : z = sQ := by simpa using hQ
          subst zQ
          refine ⟨_, rfl, sz, 1, rfl, rfl, _, rfl, ite2 (fun h1 => ?_) (fun h1 => ?_)⟩
          · exact flat (of_decide_eq_true h1)
          · have mm : m ≤ 10000 := ho.many _ mem rfl
            refine ⟨_, rfl, (m : Int), rfl, by omega, by omega, ?_⟩
            rw [Int.toNat_natCast]
            have part : ∀ j, j ≤ m → ∃ R, (X ++ tx (List.replicate j (sQ, sz))) ++ R = tx (exR Ps) := fun j hj => by
              refine ⟨tx (List.replicate (m - j) (sQ, sz)) ++ tx (exR (Ps.drop (i + 1))), ?_⟩
              rw [full, List.append_assoc, ← List.append_assoc (tx (List.replicate j _)), ← tx_app, List.replicate_append_replicate, Nat.add_sub_cancel' hj]
            refine for_range (lo := 0) (n := m) (fun j σ H2 => Same H H2 ∧ ∃ v5, σ = [some (.ref a), some (.ref l), some (.str sQ), some (vN sz), some (vN m), v5] ∧ LT H2 l (enR (rn yes (X ++ tx (List.replicate j (sQ, sz)))))) ⟨sH, v5, rfl, ?_⟩ ?_ ?_
            · show LT H' l (enR (rn yes (X ++ [])))
              rw [List.append_nil]; exact hl
            · rintro j σ H2 hj ⟨sH2, v5', rfl, hl2⟩
              have lj := len1 _ full _ (part j (by omega))
              have lj2 := len1 _ full _ (part (j + 1) hj)
              have syj := sy _ (part j (by omega))
              have e : X ++ tx (List.replicate (j + 1) (sQ, sz)) = X ++ tx (List.replicate j (sQ, sz)) ++ List.replicate (sz - 1) sB ++ [sQ] := by
                rw [List.replicate_succ', tx_app, tx_one]
                unfold tch
                rw [if_pos rfl]
                simp
              rw [e] at lj2
              generalize X ++ tx (List.replicate j (sQ, sz)) = Y at hl2 lj lj2 syj e
              refine ⟨_, rfl, _, rfl, sz, 1, rfl, rfl, hp2, l, sB, sz - 1, _, rfl, hl2, syj, by omega, fun H3 m3 hl3 => ?_⟩
              have sH3 := m3.same sH2 nl
              rw [← rn_rep _ _ rfl] at hl3
              have lj3 : (rn yes (Y ++ List.replicate (sz - 1) sB)).length ≤ 50000 := Nat.le_trans (rn_mono _ [sQ]) lj2
              refine ⟨_, rfl, l, sQ, 1, _, rfl, hl3, fun x hx => ?_, by omega, fun H4 m4 hl4 => ?_⟩
              · have := mem_rn hx
                rcases List.mem_append.mp this with q | q
                · have : x.1 ∈ Y := q
                  obtain ⟨R, hR⟩ := part (j + 1) hj
                  rw [e] at hR
                  exact tx_sym hsym _ (by rw [← hR]; simp [this])
                · rw [List.eq_of_mem_replicate q]; exact .inl rfl
              · refine ⟨m4.same sH3 nl, some (.int (0 + (j : Int))), rfl, ?_⟩
                rw [e, rn_snoc]; exact hl4
            · rintro σ H2 ⟨sH2, v5', rfl, hl2⟩
              exact ⟨sH2, _, _, _, _, rfl, hl2⟩
    · rintro σ H' ⟨sH, v2, v3, v4, v5, rfl, hl⟩
      have et : Ps.take xs.length = Ps := by rw [hxl]; exact List.take_length
      rw [et] at hl
      exact ⟨_, rfl, k H' l sH nl hl⟩
end
end Sl


end
section
set_option Elab.async false
set_option linter.all false
set_option maxRecDepth 100000
set_option maxHeartbeats 4000000
namespace Sl
open PySem PySem.Spec PyProof.Rows L2
/-- a loop over enumerate of a list -/
theorem for_enum {K : PySem.W.Frag} {a : Addr} {xs : List V} {g : TG} {tb : TS} {D : Ends} {σ : L2.St} {H : Hp} (Pv : Nat → L2.St → Hp → Prop) (h0 : Pv 0 σ H) (hq : ∀ i σ H, Pv i σ H → SqL K H a xs)
    (hs : ∀ (i : Nat) (x : V) (T : Addr) (σ : L2.St) (H : Hp), xs[i]? = some x → Pv i σ H → H T = none → g (.ref T) σ (upd H T (.tup [vN i, x])) fun σ2 H2 => tb { D with nx := Pv (i + 1), ct := Pv (i + 1), bk := D.nx } σ2 H2) (hd : ∀ σ H, Pv xs.length σ H → D.nx σ H) :
    ∃ W : Nat → Nat → L2.St → Hp → Prop, (∃ m, W 0 m σ H) ∧ ∀ i m σ H, W i m σ H →
      ((Ite K a).stop i H ∧ D.nx σ H) ∨ ((Ite K a).go i H ∧ ∃ N : L2.St → Hp → Prop, (∀ σ' H', N σ' H' → ∃ m', m' < m ∧ W (i + 1) m' σ' H') ∧ ∀ v H', (Ite K a).yld i H v H' → g v σ H' fun σ2 H2 => tb { D with nx := N, ct := N, bk := D.nx } σ2 H2) := by
  refine ⟨fun i m σ H => m = xs.length - i ∧ i ≤ xs.length ∧ Pv i σ H, ⟨_, rfl, Nat.zero_le _, h0⟩, ?_⟩
  rintro i m σ H ⟨rfl, hi, p⟩
  have qx := hq i σ H p
  by_cases l1 : i < xs.length
  · refine .inr ⟨⟨xs, _, qx, List.getElem?_eq_getElem l1⟩, Pv (i + 1), fun σ' H' p' => ⟨xs.length - (i + 1), by omega, rfl, l1, p'⟩, fun v H' y => ?_⟩
    obtain ⟨T, x', rfl, hT, rfl, f1⟩ := y
    exact hs i x' T σ H (f1 xs qx) p hT
  · have e : i = xs.length := by omega
    refine .inl ⟨⟨xs, qx, by omega⟩, ?_⟩
    rw [e] at p
    exact hd σ H p
/-- pairs of numbers -/
def enN (ps : List (Nat × Nat)) : List (List V) := ps.map fun x => [vN x.1, vN x.2]
theorem enN_len (ps : List (Nat × Nat)) : (enN ps).length = ps.length := List.length_map ..
theorem enN_app (a b : List (Nat × Nat)) : enN (a ++ b) = enN a ++ enN b := List.map_append
theorem enN_get {rs : List (Nat × Nat)} {i : Nat} {r : List V} (h : (enN rs)[i]? = some r) : ∃ x, rs[i]? = some x ∧ r = [vN x.1, vN x.2] := by
  unfold enN at h
  rw [List.getElem?_map] at h
  cases e : rs[i]? with
  | none => rw [e] at h; cases h
  | some x => rw [e] at h; exact ⟨x, rfl, (Option.some.inj h).symm⟩
theorem sym_snoc {cs : List Ch} (h : ∀ c ∈ cs, Sym c.1) {z : Sy} (hz : Sym z) (k lv : Nat) : ∀ c ∈ cs ++ List.replicate k (z, lv), Sym c.1 := fun c hc => by
  rcases List.mem_append.mp hc with q | q
  · exact h c q
  · rw [List.eq_of_mem_replicate q]; exact hz
theorem rn_sym {cs : List Ch} (h : ∀ c ∈ cs, Sym c.1) : ∀ x ∈ rn yes cs, Sym x.1.1 := fun x hx => h x.1 (mem_rn hx)
theorem tot_mem : ∀ {U : List Un} {u : Un}, u ∈ U → u.2 ≤ tot U
  | v :: U, u, h => by
    show u.2 ≤ v.2 + tot U
    rcases List.mem_cons.mp h with e | e
    · rw [e]; omega
    · have := tot_mem e
      omega
theorem dropc {α : Type} {l : List α} {i : Nat} {x : α} (h : l[i]? = some x) : l.drop i = x :: l.drop (i + 1) := by
  obtain ⟨hi, e⟩ := List.getElem?_eq_some_iff.mp h
  rw [List.drop_eq_getElem_cons hi, e]
theorem and_bl {c b : Bool} {tb : TE} {σ : L2.St} {H : Hp} {Q : V → Hp → Prop} (h : Q (.bl (c && b)) H) (hb : c = true → (∀ v, v = .bl b → Q v H) → tb σ H Q) : (if c = true then tb σ H Q else Q (.bl false) H) := by
  cases c with
  | true => exact hb rfl fun v e => e ▸ h
  | false => exact h
theorem cdp {z m : Nat} (h0 : 0 < m) (h : m < 2 ^ 400) : CDivP (z : Int) (m : Int) := ⟨by omega, PyProof.noPylong_of_log2 (by
  have := (Nat.log2_lt (Nat.pos_iff_ne_zero.mp h0)).2 h
  show Nat.log2 m < 9000
  omega)⟩
theorem intV (b : Bool) : V.int (if b = true then 1 else 0) = vN b.toNat := by cases b <;> rfl
section
variable {P : Program} {w : World} {K : PySem.W.Frag} {mg : Str → Option Value} {base : Heap}
def sp_text_of : Sp := fun vs H Q _ => ∃ (a : Addr) (bs : List (Ch × Nat)), vs = [.ref a] ∧ LT H a (enB bs) ∧ BkOk bs ∧ BsOk bs ∧ PcOk (pcs (prs 0 (exR bs))) ∧ (rn yes (tx (prs 0 (exR bs)))).length ≤ 50000 ∧ ∀ H' p, Same H H' → H p = none → LT H' p (enR (rn yes (tx (prs 0 (exR bs))))) → Q (.ref p) H'
abbrev n_text_of : List Str := ["history"]
theorem sc_text_of : FnScope n_text_of ["history"] (defScope s_text_of) := ⟨rfl, rfl, rfl, by decide +kernel, rfl, by decide +kernel, by decide +kernel⟩
theorem ok_text_of (T : Txt K mg) : Cl P w K mg base CX0 "text_of" ["history"] 7 [] sp_text_of := by
  obtain ⟨fd, F⟩ := T.def_ 30 (d := d_text_of) rfl
  have C_text_by := ok_text_by (P := P) (w := w) (base := base) T
  have C_pieces_of := ok_pieces_of (P := P) (w := w) (base := base) T
  have C_checked_blocks := ok_checked_blocks (P := P) (w := w) (base := base) T
  refine cl_ok F (T.glo 27) (fun _ _ _ _ _ _ us hl => match us, hl with | [_], _ => rfl) sc_text_of (fun vs H Q E h => ?_) (fun cdv A outer s H vs Q E hr h => ?_)
  · obtain ⟨a, rs, rfl, _⟩ := h
    rfl
  · obtain ⟨a, bs, rfl, ha, o1, o2, o3, hz, k⟩ := h
    refine ⟨_, (pss_one (ps_ret (pe_cl C_text_by (hr.mono (by decide)) (pa_cons (pe_cl C_pieces_of (hr.mono (by decide)) (pa_cons (pe_cl C_checked_blocks (hr.mono (by decide)) (pa_cons (pv 0) pa_nil)) pa_nil)) pa_nil)))), ?_⟩
    have ee : exR (pcs (prs 0 (exR bs))) = prs 0 (exR bs) := exR_rn _
    refine ⟨_, rfl, a, bs, rfl, ha, o1, (by have := o2.num; omega), fun H1 p1 s1 n1 h1 => ?_⟩
    refine ⟨p1, bs, rfl, h1, o2, fun H2 p2 s2 n2 h2 => ?_⟩
    refine ⟨p2, _, rfl, h2, o3, by rw [ee]; exact hz, fun H3 p3 s3 n3 h3 => ?_⟩
    rw [ee] at h3
    exact k H3 p3 ((s1.trans s2).trans s3) ((s1.trans s2).free n3) h3
/-! ### add_parts -/
def sp_add_parts : Sp := fun vs H Q _ => ∃ (l a : Addr) (z : Sy) (cs : List Ch) (ps : List (Nat × Nat)), vs = [.ref l, .ref a, .bl (decide (z = sQ))] ∧ a ≠ l ∧ LT H l (enB (rn yes cs)) ∧ LT H a (enN ps) ∧ (∀ c ∈ cs, Sym c.1) ∧ (∀ x ∈ ps, 1 ≤ x.2) ∧ ps.length ≤ 1000 ∧ (rn yes cs).length ≤ 50000 ∧ ∀ H', Mod l H H' → LT H' l (enB (rn yes (cs ++ pch (qn z) ps))) → Q .non H'
abbrev n_add_parts : List Str := ["blocks", "parts", "quoted", "place", "level", "many", "is_last"]
theorem sc_add_parts : FnScope n_add_parts ["blocks", "parts", "quoted"] (defScope s_add_parts) := ⟨rfl, rfl, rfl, by decide +kernel, rfl, by decide +kernel, by decide +kernel⟩
theorem ok_add_parts (T : Txt K mg) : Cl P w K mg base CX0 "add_parts" ["blocks", "parts", "quoted"] 2 [] sp_add_parts := by
  obtain ⟨fd, F⟩ := T.def_ 25 (d := d_add_parts) rfl
  have C_add_block := ok_add_block (P := P) (w := w) (base := base) T
  refine cl_ok F (T.glo 22) (fun _ _ _ _ _ _ us hl => match us, hl with | [_, _, _], _ => rfl) sc_add_parts (fun vs H Q E h => ?_) (fun cdv A outer s H vs Q E hr h => ?_)
  · obtain ⟨l, a, z, cs, ps, rfl, _⟩ := h
    rfl
  · obtain ⟨l, a, z, cs, ps, rfl, ne, hl, ha, hs, hp, hpl, hz, k⟩ := h
    refine ⟨_, (pss_one (ps_for PassesOwn.never rfl (pi_enum (by rfl) (T.free 93) (pa_cons (pv 1) pa_nil)) (pg_tup rfl (pgs_cons (pg_name (i := 3) sc_add_parts.nd rfl (Or.inl rfl)) (pgs_cons (pg_tup rfl (pgs_cons (pg_name (i := 4) sc_add_parts.nd rfl (Or.inl rfl)) (pgs_cons (pg_name (i := 5) sc_add_parts.nd rfl (Or.inl rfl)) pgs_nil))) pgs_nil)))
        (pss_cons (ps_set (i := 6) sc_add_parts.nd rfl (Or.inl rfl) (pe_and (pv 2) (pe_one (pe_cmpR oEq (pv 3) (pe_op oSub (pe_callB (call_len_seqK K) (by rfl) (T.free 83) bt_len (pa_cons (pv 1) pa_nil)) pe_int) (nomark _)))))
        (pss_cons (ps_expr (pe_cl C_add_block (hr.mono (by decide)) (pa_cons (pv 0) (pa_cons (pe_gs (T.str 104)) (pa_cons (pv 4) (pa_cons (pe_op oSub (pv 5) (pe_callTy call_int1 (by rfl) (T.free 85) bt_int (pa_cons (pv 6) pa_nil))) pa_nil))))))
        (pss_one (ps_expr (pe_cl C_add_block (hr.mono (by decide)) (pa_cons (pv 0) (pa_cons (pe_gs (T.str 105)) (pa_cons (pv 4) (pa_cons (pe_callTy call_int1 (by rfl) (T.free 85) bt_int (pa_cons (pv 6) pa_nil)) pa_nil))))))))))), ?_⟩
    obtain ⟨xs, hxs, hxl⟩ := ha.lst
    rw [enN_len] at hxl
    obtain ⟨ys, hys, _⟩ := hl.lst
    refine ⟨_, rfl, a, xs, rfl, SqL.h hxs, for_enum (K := K) (a := a) (xs := xs) (fun i σ H' => Mod l H H' ∧ ∃ v3 v4 v5 v6, σ = [some (.ref l), some (.ref a), some (.bl (decide (z = sQ))), v3, v4, v5, v6] ∧ LT H' l (enB (rn yes (cs ++ pcI (qn z) ps i))) ∧ (rn yes (cs ++ pcI (qn z) ps i)).length ≤ 50000 + 2 * i ∧ ∀ c ∈ cs ++ pcI (qn z) ps i, Sym c.1)
      ⟨Mod.refl, none, none, none, none, rfl, by rw [pcI_0, List.append_nil]; exact hl, by rw [pcI_0, List.append_nil]; omega, by rw [pcI_0, List.append_nil]; exact hs⟩ (fun i σ H' h => SqL.h (h.1 _ _ ne hxs)) ?_ ?_⟩
    · rintro i x T σ H' hx ⟨mH, v3, v4, v5, v6, rfl, hl1, hz1, hs1⟩ nT
      have hi : i < ps.length := hxl ▸ (List.getElem?_eq_some_iff.mp hx).1
      obtain ⟨r, t0, e1, rfl, e3⟩ := (ha.mod ne hys mH).row (mH _ _ ne hxs) hx
      obtain ⟨⟨lv, m⟩, e4, rfl⟩ := enN_get e1
      have hm : 1 ≤ m := hp _ (List.mem_of_getElem? e4)
      have sT : Same H' (upd H' T (.tup [vN i, .ref t0])) := Same.new nT
      have hl2 := hl1.same sT
      have mT : Mod l H (upd H' T (.tup [vN i, .ref t0])) := mH.trans (Mod.of_same sT)
      have hxs2 := sT _ _ (mH _ _ ne hxs)
      refine ⟨T, _, rfl, SqT.h upd_same, rfl, _, _, rfl, _, _, rfl, t0, _, rfl, SqT.h (sT _ _ e3), rfl, _, _, rfl, _, _, rfl, rfl, rfl, ?_⟩
      refine ⟨_, rfl, _, rfl, and_bl (b := decide (i + 1 = ps.length)) ?_ fun _ q => ?_⟩
      · have hk : ((decide (z = sQ) && decide (i + 1 = ps.length)) : Bool).toNat = if i + 1 = ps.length then qn z else 0 := by
          unfold qn
          by_cases h1 : z = sQ <;> by_cases h2 : i + 1 = ps.length <;> simp [h1, h2]
        have st : pcI (qn z) ps (i + 1) = pcI (qn z) ps i ++ List.replicate (m - ((decide (z = sQ) && decide (i + 1 = ps.length)) : Bool).toNat) (sB, lv) ++ List.replicate ((decide (z = sQ) && decide (i + 1 = ps.length)) : Bool).toNat (sQ, lv) := pcI_s (qn z) e4 hk
        generalize hb : (decide (z = sQ) && decide (i + 1 = ps.length)) = b at st hk
        have hkm : b.toNat ≤ m := Nat.le_trans (by cases b <;> decide) hm
        refine ⟨_, rfl, _, rfl, _, rfl, _, rfl, .inr ⟨b, rfl, m, b.toNat, rfl, intV b, hkm, ?_⟩⟩
        have hsB := sym_snoc hs1 (.inl rfl : Sym sB) (m - b.toNat) lv
        have hsQ := sym_snoc hsB (.inr (.inl rfl) : Sym sQ) b.toNat lv
        refine ⟨l, sB, lv, m - b.toNat, _, rfl, hl2, rn_sym hs1, .inl rfl, by omega, fun H2 m2 h2 => ?_⟩
        rw [← rn_rep _ _ rfl] at h2
        have l2 := (addR_len (mg := yes) (rn yes (cs ++ pcI (qn z) ps i)) (sB, lv) (m - b.toNat)).1
        rw [← rn_rep _ _ rfl] at l2
        have l3 := (addR_len (mg := yes) (rn yes (cs ++ pcI (qn z) ps i ++ List.replicate (m - b.toNat) (sB, lv))) (sQ, lv) b.toNat).1
        rw [← rn_rep _ _ rfl] at l3
        refine ⟨_, rfl, _, rfl, _, rfl, .inr ⟨b, rfl, l, sQ, lv, b.toNat, _, by rw [intV]; rfl, h2, rn_sym hsB, .inr (.inl rfl), by omega, fun H3 m3 h3 => ?_⟩⟩
        rw [← rn_rep _ _ rfl] at h3
        rw [st, ← List.append_assoc, ← List.append_assoc]
        exact ⟨(mT.trans m2).trans m3, _, _, _, _, rfl, h3, by omega, hsQ⟩
      · refine ⟨_, rfl, _, rfl, a, xs, rfl, .inl (SqL.h hxs2), xs.length, 1, rfl, rfl, by omega, i, xs.length - 1, rfl, rfl, ?_⟩
        have : decide (i = xs.length - 1) = decide (i + 1 = ps.length) := decide_eq_decide.mpr (by omega)
        exact q _ (congrArg V.bl this)
    · rintro σ H' ⟨mH, v3, v4, v5, v6, rfl, hl1, hz1, hs1⟩
      rw [hxl, pcI_n] at hl1
      exact k H' mH hl1
/-! ### greatest_parts -/
def sp_greatest_parts : Sp := fun vs H Q _ => ∃ (z b : Nat), vs = [vN z, vN b] ∧ z < 2 ^ 300 ∧ b ≤ 200 ∧ ∀ H' p, Same H H' → H p = none → LT H' p (enN (gp z b)) → Q (.ref p) H'
abbrev n_greatest_parts : List Str := ["size", "bound", "parts", "left", "unit", "level", "many"]
theorem sc_greatest_parts : FnScope n_greatest_parts ["size", "bound"] (defScope s_greatest_parts) := ⟨rfl, rfl, rfl, by decide +kernel, rfl, by decide +kernel, by decide +kernel⟩
theorem ok_greatest_parts (T : Txt K mg) : Cl P w K mg base CX0 "greatest_parts" ["size", "bound"] 2 [] sp_greatest_parts := by
  obtain ⟨fd, F⟩ := T.def_ 26 (d := d_greatest_parts) rfl
  have C_power_of_two := ok_power_of_two (P := P) (w := w) (base := base) T
  refine cl_ok F (T.glo 23) (fun _ _ _ _ _ _ us hl => match us, hl with | [_, _], _ => rfl) sc_greatest_parts (fun vs H Q E h => ?_) (fun cdv A outer s H vs Q E hr h => ?_)
  · obtain ⟨z, b, rfl, _⟩ := h
    rfl
  · obtain ⟨z, b, rfl, hz, hb, k⟩ := h
    refine ⟨_, (pss_cons (ps_set (i := 2) sc_greatest_parts.nd rfl (Or.inl rfl) (pe_lst pa_nil))
      (pss_cons (ps_par (i := 3) (j := 4) (by rfl) sc_greatest_parts.nd rfl rfl (by decide) rfl rfl (pa_cons (pv 0) (pa_cons (pe_cl C_power_of_two (hr.mono (by decide)) (pa_cons (pv 1) pa_nil)) pa_nil)) (by rfl))
      (pss_cons (ps_for PassesOwn.never rfl (pi_range3 (by rfl) (T.free 91) (pa_cons (pv 1) (pa_cons (pe_un un_neg pe_int) (pa_cons (pe_un un_neg pe_int) pa_nil)))) (pg_name (i := 5) sc_greatest_parts.nd rfl (Or.inl rfl))
        (pss_cons (ps_asg (pe_callB call_divmodW (by rfl) (T.free 98) bt_divmod (pa_cons (pv 3) (pa_cons (pv 4) pa_nil))) (pg_tup rfl (pgs_cons (pg_name (i := 6) sc_greatest_parts.nd rfl (Or.inl rfl)) (pgs_cons (pg_name (i := 3) sc_greatest_parts.nd rfl (Or.inl rfl)) pgs_nil))))
        (pss_cons (ps_aug (i := 4) sc_greatest_parts.nd rfl (Or.inl rfl) pe_int iDiv)
        (pss_one (ps_if (pt_cmpR oGt (pv 6) pe_int (nomark _))
          (pss_one (ps_expr (pe_bm PySem.F.plainAttrs_list PySem.F.slot_list_append PySem.F.type_list_append mt_append (pv 2) (pa_cons (pe_tup (pa_cons (pv 5) (pa_cons (pv 6) pa_nil))) pa_nil))))
          pss_nil)))))
      (pss_one (ps_ret (pv 2)))))), ?_⟩
    refine ⟨z0, fun l nl => ?_⟩
    have s1 : Same H (upd H l (.lst [])) := Same.new nl
    refine ⟨_, rfl, _, rfl, b, rfl, by omega, _, _, rfl, ?_⟩
    have h0 : LT (upd H l (.lst [])) l (enN []) := LT.nil upd_same
    refine ⟨_, rfl, 1, rfl, 1, rfl, (b : Int), -1, -1, b + 1, rfl, ?_, for_rangeC (n := b + 1) (fun i σ H' => Same H H' ∧ ∃ (L : List (Nat × Nat)) (z' u : Nat) (v5 v6 : Option V), σ = [some (vN z), some (vN b), some (.ref l), some (vN z'), some (vN u), v5, v6] ∧ LT H' l (enN L) ∧ L.length ≤ i ∧ z' < 2 ^ 300 ∧ (i ≤ b → u = 2 ^ (b - i) ∧ gp z b = L ++ gp z' (b - i)) ∧ (i = b + 1 → gp z b = L)) ?_ ?_ ?_⟩
    · have := RgC.neg (i := (b : Int)) (j := -1) (by omega) (by omega) (by omega) (by omega)
      have e : ((b : Int) - -1).toNat = b + 1 := by omega
      rw [e] at this
      exact this
    · exact ⟨s1, [], z, 2 ^ b, none, none, rfl, h0, Nat.le_refl _, hz, fun _ => ⟨rfl, rfl⟩, fun e => by omega⟩
    · rintro i σ H' hi ⟨sH, L, z', u, v5, v6, rfl, hl, hll, hz', hg0, _⟩
      obtain ⟨rfl, hg⟩ := hg0 (by omega)
      have hp : 2 ^ (b - i) < 2 ^ 400 := Nat.pow_lt_pow_right (by decide) (show b - i < 400 by omega)
      have hp0 := Nat.two_pow_pos (b - i)
      refine ⟨_, rfl, _, rfl, _, _, rfl, cdp hp0 hp, fun t nt => ?_⟩
      have s2 : Same H' (upd H' t (.tup [vN (z' / 2 ^ (b - i)), vN (z' % 2 ^ (b - i))])) := Same.new nt
      refine ⟨t, _, rfl, SqT.h upd_same, rfl, _, _, rfl, _, _, rfl, rfl, ?_⟩
      refine ⟨_, rfl, 2 ^ (b - i), 2, rfl, rfl, ⟨by decide, by decide⟩, ?_⟩
      have hl2 := hl.same s2
      have ev : (b : Int) + (i : Nat) * -1 = ((b - i : Nat) : Int) := by omega
      have zl : z' % 2 ^ (b - i) < 2 ^ 300 := Nat.lt_of_le_of_lt (Nat.mod_le _ _) hz'
      have nxt : ∀ (w5 : V) (H2 : Hp) (L' : List (Nat × Nat)), Same H H2 → LT H2 l (enN L') → L'.length ≤ i + 1 → L' = L ++ (if z' / 2 ^ (b - i) = 0 then [] else [(b - i, z' / 2 ^ (b - i))]) → Same H H2 ∧ ∃ (L : List (Nat × Nat)) (z'' u : Nat) (v5 v6 : Option V), [some (vN z), some (vN b), some (.ref l), some (vN (z' % 2 ^ (b - i))), some (vN (2 ^ (b - i) / 2)), some w5, some (vN (z' / 2 ^ (b - i)))] = [some (vN z), some (vN b), some (.ref l), some (vN z''), some (vN u), v5, v6] ∧ LT H2 l (enN L) ∧ L.length ≤ i + 1 ∧ z'' < 2 ^ 300 ∧ (i + 1 ≤ b → u = 2 ^ (b - (i + 1)) ∧ gp z b = L ++ gp z'' (b - (i + 1))) ∧ (i + 1 = b + 1 → gp z b = L) := fun w5 H2 L' sH2 hL hLl e => by
        refine ⟨sH2, L', _, _, _, _, rfl, hL, hLl, zl, fun hi' => ?_, fun hi' => ?_⟩
        · obtain ⟨d, hd⟩ : ∃ d, b - i = d + 1 := ⟨b - i - 1, by omega⟩
          have hd' : b - (i + 1) = d := by omega
          rw [hg, e, hd, hd', gp_step, List.append_assoc]
          exact ⟨by rw [Nat.pow_succ]; exact Nat.mul_div_cancel _ (by decide), rfl⟩
        · have hd : b - i = 0 := by omega
          rw [hg, e, hd, Nat.pow_zero, Nat.div_one]
          rfl
      refine ⟨_, rfl, z' / 2 ^ (b - i), 0, rfl, rfl, _, rfl, ite2 (fun hq => ?_) (fun hq => ?_)⟩
      · have hq' : 0 < z' / 2 ^ (b - i) := of_decide_eq_true hq
        obtain ⟨ys, hys, hyl⟩ := hl2.lst
        rw [enN_len] at hyl
        refine ⟨_, rfl, .inl ⟨rfl, _, SqL.h hys⟩, _, rfl, _, rfl, z2, fun p np => ?_⟩
        have s3 : Same (upd H' t (.tup [vN (z' / 2 ^ (b - i)), vN (z' % 2 ^ (b - i))])) (upd (upd H' t (.tup [vN (z' / 2 ^ (b - i)), vN (z' % 2 ^ (b - i))])) p (.tup [vN (b - i), vN (z' / 2 ^ (b - i))])) := Same.new np
        rw [ev]
        refine ⟨l, ys, _, rfl, rfl, s3 _ _ hys, by rw [hyl]; exact slt (by omega), ?_⟩
        refine nxt _ _ (L ++ [(b - i, z' / 2 ^ (b - i))]) (Same.mut ((sH.trans s2).trans s3) nl) ?_ (by rw [List.length_append]; exact Nat.succ_le_succ hll) (by rw [if_neg (by omega)])
        rw [enN_app]
        exact (hl2.same s3).push (s3 _ _ hys) upd_same
      · have hq' : z' / 2 ^ (b - i) = 0 := Nat.le_zero.mp (Nat.le_of_not_lt fun q => hq (decide_eq_true q))
        exact nxt _ _ L (sH.trans s2) hl2 (by omega) (by rw [if_pos hq', List.append_nil])
    · rintro σ H' ⟨sH, L, z', u, v5, v6, rfl, hl, hll, hz', _, hg⟩
      rw [← hg rfl] at hl
      exact ⟨_, rfl, k H' l sH nl hl⟩
/-! ### greatest_by -/
def sp_greatest_by : Sp := fun vs H Q _ => ∃ (a : Addr) (E : Nat) (Ps : List Pc), vs = [.ref a, vN E] ∧ LT H a (enB Ps) ∧ PcOk Ps ∧ E ≤ 200 ∧ tot (exR Ps) < 2 ^ 300 ∧ (rn yes (gru E (exR Ps))).length ≤ 50000 ∧ ∀ H' p, Same H H' → H p = none → LT H' p (enB (rn yes (gru E (exR Ps)))) → Q (.ref p) H'
abbrev n_greatest_by : List Str := ["pieces", "escapes", "blocks", "bound", "symbol", "size", "many", "step", "parts"]
theorem sc_greatest_by : FnScope n_greatest_by ["pieces", "escapes"] (defScope s_greatest_by) := ⟨rfl, rfl, rfl, by decide +kernel, rfl, by decide +kernel, by decide +kernel⟩
theorem ok_greatest_by (T : Txt K mg) : Cl P w K mg base CX0 "greatest_by" ["pieces", "escapes"] 3 [] sp_greatest_by := by
  obtain ⟨fd, F⟩ := T.def_ 27 (d := d_greatest_by) rfl
  have C_add_block := ok_add_block (P := P) (w := w) (base := base) T
  have C_greatest_parts := ok_greatest_parts (P := P) (w := w) (base := base) T
  have C_add_parts := ok_add_parts (P := P) (w := w) (base := base) T
  refine cl_ok F (T.glo 24) (fun _ _ _ _ _ _ us hl => match us, hl with | [_, _], _ => rfl) sc_greatest_by (fun vs H Q E h => ?_) (fun cdv A outer s H vs Q E hr h => ?_)
  · obtain ⟨a, E, Ps, rfl, _⟩ := h
    rfl
  · obtain ⟨a, E, Ps, rfl, ha, ho, hE, ht, hz, k⟩ := h
    refine ⟨_, (pss_cons (ps_set (i := 2) sc_greatest_by.nd rfl (Or.inl rfl) (pe_lst pa_nil))
      (pss_cons (ps_set (i := 3) sc_greatest_by.nd rfl (Or.inl rfl) (pv 1))
      (pss_cons (ps_for PassesOwn.never rfl (pi_list (pv 0)) (pg_tup rfl (pgs_cons (pg_name (i := 4) sc_greatest_by.nd rfl (Or.inl rfl)) (pgs_cons (pg_name (i := 5) sc_greatest_by.nd rfl (Or.inl rfl)) (pgs_cons (pg_name (i := 6) sc_greatest_by.nd rfl (Or.inl rfl)) pgs_nil))))
        (pss_one (ps_if (pt_cmpR (op_notIn_seqK K) (pv 4) (pe_gr (T.glo 77)) rfl)
          (pss_one (ps_expr (pe_cl C_add_block (hr.mono (by decide)) (pa_cons (pv 2) (pa_cons (pv 4) (pa_cons (pv 3) (pa_cons (pv 6) pa_nil)))))))
          (pss_one (ps_if (pt_cmpR oEq (pv 5) pe_int (nomark _))
            (pss_cons (ps_expr (pe_cl C_add_block (hr.mono (by decide)) (pa_cons (pv 2) (pa_cons (pv 4) (pa_cons pe_int (pa_cons (pv 6) pa_nil))))))
            (pss_one (ps_set (i := 3) sc_greatest_by.nd rfl (Or.inl rfl) pe_int)))
            (pss_one (ps_for PassesOwn.never rfl (pi_range1 (by rfl) (T.free 91) (pa_cons (pv 6) pa_nil)) (pg_name (i := 7) sc_greatest_by.nd rfl (Or.inl rfl))
              (pss_cons (ps_set (i := 8) sc_greatest_by.nd rfl (Or.inl rfl) (pe_cl C_greatest_parts (hr.mono (by decide)) (pa_cons (pv 5) (pa_cons (pv 3) pa_nil))))
              (pss_cons (ps_set (i := 3) sc_greatest_by.nd rfl (Or.inl rfl) (pe_ix (ix_tupK K) (pe_ix (ix_listK K) (pv 8) (pe_un un_neg pe_int) (fun _ _ => rfl)) pe_int (fun _ _ => rfl)))
              (pss_one (ps_expr (pe_cl C_add_parts (hr.mono (by decide)) (pa_cons (pv 2) (pa_cons (pv 8) (pa_cons (pe_cmpR oEqS (pv 4) (pe_gs (T.str 105)) (nomark _)) pa_nil)))))))))))))))
      (pss_one (ps_ret (pv 2)))))), ?_⟩
    refine ⟨z0, fun l nl => ?_⟩
    have s1 : Same H (upd H l (.lst [])) := Same.new nl
    obtain ⟨xs, hxs, hxl⟩ := ha.lst
    rw [enB_len] at hxl
    have hsym : ∀ c ∈ gru E (exR Ps), Sym c.1 := fun c hc => by
      rcases gru_mem hc with q | q | ⟨u, hu, e⟩
      · exact .inl q
      · exact .inr (.inl q)
      · obtain ⟨x, hx, rfl⟩ := mem_exR1 hu
        rw [← e]; exact ho.sym x hx
    have pre : ∀ C, (∃ R, C ++ R = gru E (exR Ps)) → (rn yes C).length ≤ 50000 ∧ ∀ c ∈ C, Sym c.1 := fun C ⟨R, hR⟩ =>
      ⟨Nat.le_trans (rn_mono C R) (by rw [hR]; exact hz), fun c hc => hsym c (by rw [← hR]; exact List.mem_append_left _ hc)⟩
    refine ⟨_, rfl, _, rfl, a, rfl, ⟨_, SqL.h (s1 _ _ hxs)⟩, for_list (K := K) (a := a) (xs := xs) (fun i σ H' => Same H H' ∧ ∃ (b : Nat) (v4 v5 v6 v7 v8 : Option V) (C : List Ch), σ = [some (.ref a), some (vN E), some (.ref l), some (vN b), v4, v5, v6, v7, v8] ∧ b ≤ E ∧ gru E (exR Ps) = C ++ gru b (exR (Ps.drop i)) ∧ LT H' l (enB (rn yes C)))
      ⟨s1, E, none, none, none, none, none, [], rfl, Nat.le_refl _, rfl, LT.nil upd_same⟩ (fun i σ H' _ h => SqL.h (h.1 _ _ hxs)) ?_ ?_⟩
    · rintro i x σ H' hx ⟨sH, b, v4, v5, v6, v7, v8, C, rfl, hb, hC, hl⟩
      obtain ⟨r, t0, e1, rfl, e3⟩ := (ha.same sH).row (sH _ _ hxs) hx
      obtain ⟨⟨⟨z, sz⟩, m⟩, e4, rfl⟩ := enB_get e1
      have mem := List.mem_of_getElem? e4
      have hsz := ho.sym _ mem
      have hp := ho.pos _ mem
      have hp1 : 1 ≤ m := hp.1
      have hp2 : 1 ≤ sz := hp.2
      rw [dropc e4, exR_cons] at hC
      have hC' : gru E (exR Ps) = C ++ gru b (List.replicate m (z, sz) ++ exR (Ps.drop (i + 1))) := hC
      have pC := pre C ⟨_, hC.symm⟩
      refine ⟨t0, _, rfl, SqT.h e3, rfl, _, _, rfl, _, _, rfl, _, _, rfl, rfl, ?_⟩
      refine ⟨_, rfl, _, _, rfl, .inr (special_at T _), rfl, rfl, _, rfl, ?_⟩
      show if (!inV (.str z) [.str sB, .str sQ]) = true then _ else _
      rw [inV_special]
      refine ite2 (fun hG => ?_) (fun hG => ?_)
      · have hg : ¬ (z = sB ∨ z = sQ) := by simpa using hG
        have z1 : sz = 1 := ho.pl _ mem hg
        subst z1
        rw [gru_P (b := b) hg, ← List.append_assoc] at hC'
        have pC2 := pre _ ⟨_, hC'.symm⟩
        refine ⟨_, rfl, _, rfl, _, rfl, _, rfl, l, z, b, m, _, rfl, hl, rn_sym pC.2, hsz, by have := pC.1; omega, fun H2 m2 h2 => ?_⟩
        rw [← rn_rep _ _ rfl] at h2
        exact ⟨m2.same sH nl, b, _, _, _, _, _, _, rfl, hb, hC', h2⟩
      · have hg : z = sB ∨ z = sQ := Decidable.byContradiction fun q => hG (by simpa using q)
        refine ⟨_, rfl, sz, 1, rfl, rfl, _, rfl, ite2 (fun h1 => ?_) (fun h1 => ?_)⟩
        · have z1 : sz = 1 := of_decide_eq_true h1
          subst z1
          obtain ⟨m', rfl⟩ : ∃ m', m = m' + 1 := ⟨m - 1, by omega⟩
          rw [gru_1 hg, ← List.append_assoc] at hC'
          refine ⟨_, rfl, _, rfl, _, rfl, l, z, 0, m' + 1, _, rfl, hl, rn_sym pC.2, hsz, by have := pC.1; omega, fun H2 m2 h2 => ?_⟩
          rw [← rn_rep _ _ rfl] at h2
          exact ⟨m2.same sH nl, 0, _, _, _, _, _, _, rfl, Nat.zero_le _, hC', h2⟩
        · have mm : m ≤ 10000 := by
            rcases hg with q | q
            · have : m = 1 := ho.one _ mem q
              omega
            · exact ho.many _ mem q
          have hszb : sz < 2 ^ 300 := by
            have hm : (z, sz) ∈ exR Ps := List.mem_flatMap.mpr ⟨((z, sz), m), mem, by show (z, sz) ∈ List.replicate m (z, sz); rw [List.mem_replicate]; exact ⟨by omega, rfl⟩⟩
            exact Nat.lt_of_le_of_lt (tot_mem hm) ht
          refine ⟨_, rfl, (m : Int), rfl, by omega, by omega, ?_⟩
          rw [Int.toNat_natCast]
          refine for_range (lo := 0) (n := m) (fun j σ H2 => Same H H2 ∧ ∃ (b : Nat) (v7 v8 : Option V) (C : List Ch), σ = [some (.ref a), some (vN E), some (.ref l), some (vN b), some (.str z), some (vN sz), some (vN m), v7, v8] ∧ b ≤ E ∧ gru E (exR Ps) = C ++ gru b (List.replicate (m - j) (z, sz) ++ exR (Ps.drop (i + 1))) ∧ LT H2 l (enB (rn yes C))) ⟨sH, b, v7, v8, C, rfl, hb, hC', hl⟩ ?_ ?_
          · rintro j σ H2 hj ⟨sH2, b2, w7, w8, C2, rfl, hb2, hC2, hl2⟩
            have ej : m - j = (m - (j + 1)) + 1 := by omega
            rw [ej, List.replicate_succ, List.cons_append, gru_G hg, ← List.append_assoc] at hC2
            have pC2 := pre C2 ⟨_, (List.append_assoc _ _ _ ▸ hC2).symm⟩
            obtain ⟨L, y, eL, ey⟩ := gpl_ne (b := b2) hp2
            refine ⟨_, rfl, _, rfl, sz, b2, rfl, hszb, by omega, fun H3 p s3 np hp3 => ?_⟩
            have hp3' := hp3
            rw [eL, enN_app] at hp3'
            obtain ⟨ys, t, f1, f2, f3⟩ := hp3'.last
            rw [enN_len] at f3
            refine ⟨_, rfl, 1, rfl, p, _, _, _, rfl, rfl, SqL.h f1, atI_last _ _, t, _, _, _, rfl, rfl, SqT.h f2, atI_nat (j := 0) rfl, ?_⟩
            have nep : p ≠ l := by
              rintro rfl
              obtain ⟨q, hq, _⟩ := hl2.lst
              rw [np] at hq; cases hq
            refine ⟨_, rfl, _, rfl, _, rfl, z, sQ, rfl, rfl, l, p, z, C2, _, rfl, nep, hl2.same s3, hp3, pC2.2, fun x hx => (gp_pos b2 sz x hx).1, ?_, pC2.1, fun H4 m4 h4 => ?_⟩
            · have := gp_le b2 sz
              omega
            · refine ⟨m4.same (sH2.trans s3) nl, y.1, _, _, _, rfl, ?_, ?_, h4⟩
              · rw [← ey]; exact Nat.le_trans (gpl_le hp2) hb2
              · rw [← ey]; exact hC2
          · rintro σ H2 ⟨sH2, b2, w7, w8, C2, rfl, hb2, hC2, hl2⟩
            rw [Nat.sub_self] at hC2
            exact ⟨sH2, b2, _, _, _, _, _, C2, rfl, hb2, hC2, hl2⟩
    · rintro σ H' ⟨sH, b, v4, v5, v6, v7, v8, C, rfl, hb, hC, hl⟩
      have et : Ps.drop xs.length = [] := by rw [hxl]; exact List.drop_length
      rw [et] at hC
      have : gru E (exR Ps) = C := hC.trans (List.append_nil _)
      rw [← this] at hl
      exact ⟨_, rfl, k H' l sH nl hl⟩
end
end Sl


end
section
set_option Elab.async false
set_option linter.all false
set_option maxRecDepth 100000
set_option maxHeartbeats 4000000
namespace Sl
open PySem PySem.Spec PyProof.Rows L2
/-- a text of the law -/
structure UB (U : List Un) : Prop where
  wu : WU U
  sym : ∀ u ∈ U, Sym u.1
  tot : tot U < 2 ^ 250
  run : (rnT U).length ≤ 1000
  nq : U.countP (fun u => u.1 = sQ) ≤ 1000
theorem tot300 {n : Nat} (h : n < 2 ^ 250) : n < 2 ^ 300 := Nat.lt_of_lt_of_le h (Nat.pow_le_pow_right (by decide) (by decide))
section
variable {U : List Un}
theorem UB.rnok (o : UB U) : RnOk (rnT U) := ⟨rn_wr _, fun x hx => tx_sym o.sym _ (mem_rn hx)⟩
theorem UB.tsz (o : UB U) : tsz (rnT U) = Sl.tot U := by
  rw [tsz_ex]
  unfold rnT
  rw [exR_rn, tx_len o.wu.pos]
theorem UB.prs (o : UB U) : Sl.prs 0 (ch0 (exR (rnT U))) = U := by
  unfold rnT
  rw [exR_rn, prs_tx o.wu]
theorem UB.pc (o : UB U) : PcOk (pcs U) where
  pos := fun x hx => ⟨pcs_pos hx, o.wu.pos _ (mem_rn hx)⟩
  one := pcs_one
  pl := fun x hx hg => o.wu.p1 _ (mem_rn hx) hg
  sym := fun x hx => o.sym _ (mem_rn hx)
  many := fun x hx hQ => Nat.le_trans (pcs_many hx hQ) (Nat.le_trans o.nq (by decide))
theorem exR_pcs (U : List Un) : exR (pcs U) = U := exR_rn U
end
/-- a history of the text -/
structure HB (U : List Un) (E : Nat) (cs : List Ch) : Prop where
  hc : Hc U E cs
  e : E ≤ 200
section
variable {U : List Un} {E : Nat} {cs : List Ch}
theorem HB.sym (h : HB U E cs) (o : UB U) : ∀ c ∈ cs, Sym c.1 := fun c hc => by
  have : c.1 ∈ tx U := by
    have e := tx_prs cs 0
    rw [h.hc.prs] at e
    rw [e]
    refine List.mem_append_right _ (List.mem_flatMap.mpr ⟨c, hc, ?_⟩)
    obtain ⟨A, hA⟩ := esc_last c
    rw [hA]; simp
  exact tx_sym o.sym _ this
theorem HB.len (h : HB U E cs) (o : UB U) : (rn yes cs).length ≤ 1200 := by
  have := h.hc.blk
  have := o.run
  have := h.e
  omega
theorem HB.ex : exR (rn yes cs) = cs := exR_rn cs
theorem HB.lv (h : HB U E cs) : ∀ c ∈ cs, c.2 ≤ E := fun c hc => h.hc.le _ (mem_lvs hc)
theorem HB.tot (h : HB U E cs) : (lvs cs).length = tot U := by
  have := prs_tot cs 0
  rw [h.hc.prs, Nat.zero_add] at this
  exact this.symm
theorem HB.bk (h : HB U E cs) (o : UB U) : BkOk (rn yes cs) where
  pos := (rn_wr cs).pos
  lvl := fun x hx => Nat.le_trans (h.lv _ (mem_rn hx)) h.e
  sym := fun x hx => h.sym o _ (mem_rn hx)
  nb := (nb_and (blk_dn (rn_wr cs).pos (by rw [HB.ex]; exact h.hc.dn)) (rn_wr cs).nb).imp fun a b r => ⟨r.1, fun q => r.2 ⟨q, rfl⟩⟩
theorem HB.bs (h : HB U E cs) (o : UB U) : BsOk (rn yes cs) where
  pos := (rn_wr cs).pos
  lvl := fun x hx => Nat.le_trans (h.lv _ (mem_rn hx)) h.e
  sym := fun x hx => h.sym o _ (mem_rn hx)
  len := by rw [HB.ex, h.tot]; exact tot300 o.tot
  num := by have := h.len o; omega
theorem HB.gru (o : UB U) (hE : E ≤ 200) : HB U E (gru E U) := ⟨hc_gru o.wu, hE⟩
end
theorem take1 (xs : List V) : cutV xs none (some 1) = xs.take 1 := by
  unfold cutV
  rw [show HT.sIx xs.length xs.length (some 1) = min 1 xs.length from HT.sIx_nat xs.length xs.length 1, HT.sIx_none]
  cases xs with
  | nil => rfl
  | cons x r =>
    rw [show min 1 (x :: r).length = 1 by
      rw [List.length_cons]
      omega]
    rfl
theorem any_false : ∀ n : Nat, (List.replicate n false).any id = false
  | 0 => rfl
  | n + 1 => any_false n
section
variable {P : Program} {w : World} {K : PySem.W.Frag} {mg : Str → Option Value} {base : Heap}
/-! ### is_history_of -/
def sp_is_history_of : Sp := fun vs H Q _ => ∃ (a h : Addr) (U : List Un) (E : Nat) (cs : List Ch), vs = [.ref a, vN E, .ref h] ∧ LT H a (enR (rnT U)) ∧ LT H h (enB (rn yes cs)) ∧ UB U ∧ HB U E cs ∧ ∀ H', Same H H' → Q (.bl true) H'
abbrev n_is_history_of : List Str := ["runs", "escapes", "value", "block"]
theorem sc_is_history_of : FnScope n_is_history_of ["runs", "escapes", "value"] (defScope s_is_history_of) := ⟨rfl, rfl, rfl, by decide +kernel, rfl, by decide +kernel, by decide +kernel⟩
theorem ok_is_history_of (T : Txt K mg) : Cl P w K mg base CX0 "is_history_of" ["runs", "escapes", "value"] 6 [] sp_is_history_of := by
  obtain ⟨fd, F⟩ := T.def_ 29 (d := d_is_history_of) rfl
  have C_are_blocks := ok_are_blocks (P := P) (w := w) (base := base) T
  have C_pieces_of := ok_pieces_of (P := P) (w := w) (base := base) T
  have C_pieces_of_text := ok_pieces_of_text (P := P) (w := w) (base := base) T
  refine cl_ok F (T.glo 26) (fun _ _ _ _ _ _ us hl => match us, hl with | [_, _, _], _ => rfl) sc_is_history_of (fun vs H Q E h => ?_) (fun cdv A outer s H vs Q E hr h => ?_)
  · obtain ⟨a, h, U, E, cs, rfl, _⟩ := h
    rfl
  · obtain ⟨a, hh, U, E, cs, rfl, ha, hb, o, hc, k⟩ := h
    refine ⟨_, (pss_cons (ps_if (PW.pt (pw_or (pt_not (pt_val (pe_cl C_are_blocks (hr.mono (by decide)) (pa_cons (pv 2) pa_nil)))) (pw_or1 (pt_val (pe_callB (cr_anyK K rfl) (by rfl) (T.free 82) bt_any (pa_cons (pe_lc (own := [("block", 3)]) (g := (gName 3)) (tt := tYes) rfl sc_is_history_of.nd (pi_list (pe_slice (sl_listK K) (pv 2) po_none (po_some pe_int))) (blkOk_by (N := n_is_history_of) (sc := defScope s_is_history_of) (by decide +kernel)) (fun _ _ _ _ _ => (pg_name (i := 3) sc_is_history_of.nd rfl (Or.inl rfl))) (fun _ _ _ _ _ => pts_nil) (fun _ _ _ _ _ => (pe_cmpR oGt (pe_ix (ix_tupK K) (pv 3) pe_int (fun _ _ => rfl)) (pv 1) (nomark _)))) pa_nil))))))
        (pss_one (ps_ret pe_bl))
        pss_nil)
      (pss_one (ps_ret (pe_cmpR (op_eqDK K hr.units) (pe_cl C_pieces_of (hr.mono (by decide)) (pa_cons (pv 2) pa_nil)) (pe_cl C_pieces_of_text (hr.mono (by decide)) (pa_cons (pv 0) pa_nil)) (nomark _))))), ?_⟩
    have hlen := hc.len o
    refine ⟨_, rfl, hh, _, rfl, hb, hc.bk o, by omega, fun H1 s1 => ⟨true, rfl, ?_⟩⟩
    have hb1 := hb.same s1
    have ha1 := ha.same s1
    obtain ⟨xs, hxs, hxl⟩ := hb1.lst
    rw [enB_len] at hxl
    refine iteF ?_
    refine ⟨_, rfl, 1, rfl, hh, xs, rfl, SqL.h hxs, fun q nq => ?_⟩
    have s2 : Same H1 (upd H1 q (.lst (cutV xs none (some 1)))) := Same.new nq
    have hq : (upd H1 q (.lst (cutV xs none (some 1)))) q = some (.lst (xs.take 1)) := by rw [upd_same, take1]
    have hb2 := hb1.same s2
    have hxs2 := s2 _ _ hxs
    refine ⟨q, rfl, ⟨_, SqL.h hq⟩, fun D nD => lcL_flat (xs := xs.take 1) (fun _ => some (.bl false)) (by rw [List.length_take]; omega) nD (SqL.h hq) (fun i x H2 hx s3 Qc Qn t => ?_) fun H2 s3 hD => ?_⟩
    · have hx' : xs[i]? = some x := by
        rw [List.getElem?_take] at hx
        split at hx
        · exact hx
        · cases hx
      obtain ⟨r, t0, e1, rfl, e3⟩ := (hb2.same s3).row (s3 _ _ hxs2) hx'
      obtain ⟨y, e4, rfl⟩ := enB_get e1
      have hl : y.1.2 ≤ E := hc.lv _ (mem_rn (List.mem_of_getElem? e4))
      refine El.name ?_
      refine ⟨_, rfl, t0, _, _, _, rfl, rfl, SqT.h e3, atI_nat (j := 1) rfl, _, rfl, y.1.2, E, rfl, rfl, ?_⟩
      have e : V.bl (decide (E < y.1.2)) = V.bl false := decF (by omega)
      show Qc (V.bl (decide (E < y.1.2))) H2
      rw [e]
      exact t H2 (Same.refl _)
    · have ef : (List.range (xs.take 1).length).filterMap (fun _ => some (V.bl false)) = (List.replicate (xs.take 1).length false).map V.bl := by
        rw [List.map_replicate]
        generalize (xs.take 1).length = n
        induction n with
        | zero => rfl
        | succ n ih => rw [range_fm, ih, List.replicate_succ']; rfl
      rw [ef] at hD
      refine ⟨D, List.replicate (xs.take 1).length false, rfl, SqL.h hD, false, congrArg V.bl (any_false _), iteF ?_⟩
      have s13 := (s1.trans s2).trans s3
      refine ⟨_, rfl, hh, _, rfl, hb2.same s3, hc.bs o, fun H4 p s4 np h4 => ?_⟩
      refine ⟨_, rfl, a, _, rfl, (ha1.same s2).same (s3.trans s4), o.rnok, by rw [o.tsz]; exact tot300 o.tot, by have := o.run; omega, fun H5 p' s5 np' h5 => ?_⟩
      rw [o.prs] at h5
      rw [HB.ex, hc.hc.prs] at h4
      have ns := enB_ns (bs := pcs U) o.pc.sym
      have ok : ∀ r ∈ enB (pcs U), r.all okV = true := fun r hr => ok_ns (ns r hr)
      refine ⟨_, _, (h4.same s5).dpo ok, h5.dpo ok, shaped_rows ok, shaped_rows ok, ?_⟩
      have e : PyData.eqv (pdR (enB (pcs U))) (pdR (enB (pcs U))) = true := (eqv_rows ns ns).trans (decide_eq_true rfl)
      rw [e]
      exact k _ ((s13.trans s4).trans s5)
/-! ### checked_history -/
def sp_checked_history : Sp := fun vs H Q _ => ∃ (a h : Addr) (U : List Un) (E : Nat) (cs : List Ch), vs = [.ref a, vN E, .ref h] ∧ LT H a (enR (rnT U)) ∧ LT H h (enB (rn yes cs)) ∧ UB U ∧ HB U E cs ∧ ∀ H' p, Same H H' → H p = none → LT H' p (enB (rn yes cs)) → Q (.ref p) H'
abbrev n_checked_history : List Str := ["runs", "escapes", "history", "block"]
theorem sc_checked_history : FnScope n_checked_history ["runs", "escapes", "history"] (defScope s_checked_history) := ⟨rfl, rfl, rfl, by decide +kernel, rfl, by decide +kernel, by decide +kernel⟩
theorem ok_checked_history (T : Txt K mg) : Cl P w K mg base CX0 "checked_history" ["runs", "escapes", "history"] 7 [] sp_checked_history := by
  obtain ⟨fd, F⟩ := T.def_ 28 (d := d_checked_history) rfl
  have C_is_history_of := ok_is_history_of (P := P) (w := w) (base := base) T
  refine cl_ok F (T.glo 25) (fun _ _ _ _ _ _ us hl => match us, hl with | [_, _, _], _ => rfl) sc_checked_history (fun vs H Q E h => ?_) (fun cdv A outer s H vs Q E hr h => ?_)
  · obtain ⟨a, h, U, E, cs, rfl, _⟩ := h
    rfl
  · obtain ⟨a, hh, U, E, cs, rfl, ha, hb, o, hc, k⟩ := h
    refine ⟨_, (pss_cons (ps_if (pt_not (pt_val (pe_cl C_is_history_of (hr.mono (by decide)) (pa_cons (pv 0) (pa_cons (pv 1) (pa_cons (pv 2) pa_nil))))))
        (pss_one ps_never)
        pss_nil)
      (pss_one (ps_ret (pe_lc (own := [("block", 3)]) (g := (gName 3)) (tt := tYes) rfl sc_checked_history.nd (pi_list (pv 2)) (blkOk_by (N := n_checked_history) (sc := defScope s_checked_history) (by decide +kernel)) (fun _ _ _ _ _ => (pg_name (i := 3) sc_checked_history.nd rfl (Or.inl rfl))) (fun _ _ _ _ _ => pts_nil) (fun _ _ _ _ _ => (pe_callTy (call_tupleTK K) (by rfl) (T.free 89) bt_tuple (pa_cons (pv 3) pa_nil))))))), ?_⟩
    have hlen := hc.len o
    refine ⟨_, rfl, _, rfl, _, rfl, a, hh, U, E, cs, rfl, ha, hb, o, hc, fun H1 s1 => ⟨true, rfl, iteF ?_⟩⟩
    have ha1 := hb.same s1
    obtain ⟨xs, hxs, hxl⟩ := ha1.lst
    rw [enB_len] at hxl
    refine ⟨_, rfl, hh, rfl, ⟨_, SqL.h hxs⟩, fun D nD => lcL_rows (xs := xs) (fun i => (enB (rn yes cs))[i]?) (by omega) nD (SqL.h hxs) (fun i x H2 hx s2 Qc Qn t => ?_) fun H2 s2 hD => ?_⟩
    · obtain ⟨r, t0, e1, rfl, e3⟩ := (ha1.same s2).row (s2 _ _ hxs) hx
      have t' : ∀ v H', Same H2 H' → RowV H' v r → Qc v H' := by
        unfold TurnR at t
        rw [e1] at t
        exact t
      exact El.name ⟨_, rfl, t0, _, rfl, SqT.h e3, t' _ _ (Same.refl _) ⟨t0, rfl, e3⟩⟩
    · rw [hxl, ← enB_len (rn yes cs), fm_some] at hD
      exact k H2 D (s1.trans s2) (s1.free nD) hD
/-! ### count_characters -/
theorem enB_count (bs : List (Ch × Nat)) : ((bs.map fun x => ((x.2 : Nat) : Int)).sum) = (((exR bs).length : Nat) : Int) := by
  have := sum_cast (bs.map (·.2))
  rw [List.map_map] at this
  refine this.trans (congrArg _ ?_)
  induction bs with
  | nil => rfl
  | cons x r ih =>
    rw [List.map_cons, List.sum_cons, exR_cons, List.length_append, List.length_replicate, ih]
    have := sum_cast (r.map (·.2))
    rw [List.map_map] at this
    exact this
def sp_count_characters : Sp := fun vs H Q _ => ∃ (h : Addr) (U : List Un) (E : Nat) (cs : List Ch), vs = [.ref h] ∧ LT H h (enB (rn yes cs)) ∧ UB U ∧ HB U E cs ∧ ∀ H', Same H H' → Q (vN cs.length) H'
abbrev n_count_characters : List Str := ["history", "symbol", "level", "count"]
theorem sc_count_characters : FnScope n_count_characters ["history"] (defScope s_count_characters) := ⟨rfl, rfl, rfl, by decide +kernel, rfl, by decide +kernel, by decide +kernel⟩
theorem ok_count_characters (T : Txt K mg) : Cl P w K mg base CX0 "count_characters" ["history"] 7 [] sp_count_characters := by
  obtain ⟨fd, F⟩ := T.def_ 31 (d := d_count_characters) rfl
  have C_checked_blocks := ok_checked_blocks (P := P) (w := w) (base := base) T
  refine cl_ok F (T.glo 28) (fun _ _ _ _ _ _ us hl => match us, hl with | [_], _ => rfl) sc_count_characters (fun vs H Q E h => ?_) (fun cdv A outer s H vs Q E hr h => ?_)
  · obtain ⟨a, U, E, cs, rfl, _⟩ := h
    rfl
  · obtain ⟨hh, U, E, cs, rfl, hb, o, hc, k⟩ := h
    refine ⟨_, (pss_one (ps_ret (pe_callB (cr_sumK K rfl) (by rfl) (T.free 90) bt_sum (pa_cons (pe_lc (own := [("symbol", 1), ("level", 2), ("count", 3)]) (g := (gTup K 3 (gCons (gName 1) (gCons (gName 2) (gCons (gName 3) gNil))))) (tt := tYes) rfl sc_count_characters.nd (pi_list (pe_cl C_checked_blocks (hr.mono (by decide)) (pa_cons (pv 0) pa_nil))) (blkOk_by (N := n_count_characters) (sc := defScope s_count_characters) (by decide +kernel)) (fun _ _ _ _ _ => (pg_tup rfl (pgs_cons (pg_name (i := 1) sc_count_characters.nd rfl (Or.inl rfl)) (pgs_cons (pg_name (i := 2) sc_count_characters.nd rfl (Or.inl rfl)) (pgs_cons (pg_name (i := 3) sc_count_characters.nd rfl (Or.inl rfl)) pgs_nil))))) (fun _ _ _ _ _ => pts_nil) (fun _ _ _ _ _ => (pv 3))) pa_nil)))), ?_⟩
    have hlen := hc.len o
    refine ⟨_, rfl, hh, _, rfl, hb, hc.bk o, by omega, fun H1 p s1 np h1 => ?_⟩
    obtain ⟨xs, hxs, hxl⟩ := h1.lst
    rw [enB_len] at hxl
    refine ⟨p, rfl, ⟨_, SqL.h hxs⟩, fun D nD => lcL_flat (xs := xs) (fun i => (rn yes cs)[i]?.map fun x => vN x.2) (by omega) nD (SqL.h hxs) (fun i x H2 hx s2 Qc Qn t => ?_) fun H2 s2 hD => ?_⟩
    · obtain ⟨r, t0, e1, rfl, e3⟩ := (h1.same s2).row (s2 _ _ hxs) hx
      obtain ⟨y, e4, rfl⟩ := enB_get e1
      have t' : ∀ H', Same H2 H' → Qc (vN y.2) H' := by
        unfold TurnF at t
        rw [e4] at t
        exact t
      refine ⟨t0, _, rfl, SqT.h e3, rfl, _, _, rfl, _, _, rfl, _, _, rfl, rfl, rfl, ?_⟩
      exact ⟨_, rfl, t' _ (Same.refl _)⟩
    · have e : (List.range xs.length).filterMap (fun i => (rn yes cs)[i]?.map fun x => vN x.2) = ((rn yes cs).map fun x => ((x.2 : Nat) : Int)).map V.int := by
        rw [hxl, fm_rows (k := fun x => some (vN x.2)) (fun i r h => by rw [h]; rfl), List.map_map]
        exact congrFun List.filterMap_eq_map (rn yes cs)
      rw [e] at hD
      refine ⟨D, _, rfl, SqL.h hD, ?_⟩
      have e2 := enB_count (rn yes cs)
      rw [HB.ex] at e2
      rw [e2]
      exact k _ (s1.trans s2)
/-! ### greatest_history -/
def sp_greatest_history : Sp := fun vs H Q _ => ∃ (a : Addr) (U : List Un) (E : Nat), vs = [.ref a, vN E] ∧ LT H a (enR (rnT U)) ∧ UB U ∧ E ≤ 200 ∧ ∀ H' p, Same H H' → H p = none → LT H' p (enB (rn yes (gru E U))) → Q (.ref p) H'
abbrev n_greatest_history : List Str := ["text", "escapes", "runs"]
theorem sc_greatest_history : FnScope n_greatest_history ["text", "escapes"] (defScope s_greatest_history) := ⟨rfl, rfl, rfl, by decide +kernel, rfl, by decide +kernel, by decide +kernel⟩
theorem ok_greatest_history (T : Txt K mg) : Cl P w K mg base CX0 "greatest_history" ["text", "escapes"] 5 [] sp_greatest_history := by
  obtain ⟨fd, F⟩ := T.def_ 32 (d := d_greatest_history) rfl
  have C_checked_text := ok_checked_text (P := P) (w := w) (base := base) T
  have C_check_escapes := ok_check_escapes (P := P) (w := w) (base := base) T
  have C_greatest_by := ok_greatest_by (P := P) (w := w) (base := base) T
  have C_pieces_of_text := ok_pieces_of_text (P := P) (w := w) (base := base) T
  refine cl_ok F (T.glo 29) (fun _ _ _ _ _ _ us hl => match us, hl with | [_, _], _ => rfl) sc_greatest_history (fun vs H Q E h => ?_) (fun cdv A outer s H vs Q E hr h => ?_)
  · obtain ⟨a, U, E, rfl, _⟩ := h
    rfl
  · obtain ⟨a, U, E, rfl, ha, o, hE, k⟩ := h
    refine ⟨_, (pss_cons (ps_set (i := 2) sc_greatest_history.nd rfl (Or.inl rfl) (pe_cl C_checked_text (hr.mono (by decide)) (pa_cons (pv 0) pa_nil)))
      (pss_cons (ps_expr (pe_cl C_check_escapes (hr.mono (by decide)) (pa_cons (pv 1) pa_nil)))
      (pss_one (ps_ret (pe_cl C_greatest_by (hr.mono (by decide)) (pa_cons (pe_cl C_pieces_of_text (hr.mono (by decide)) (pa_cons (pv 2) pa_nil)) (pa_cons (pv 1) pa_nil))))))), ?_⟩
    have hr := o.run
    refine ⟨_, rfl, a, _, rfl, ha, o.rnok, by omega, fun H1 p s1 np h1 => ?_⟩
    refine ⟨_, rfl, E, rfl, hE, ?_⟩
    refine ⟨_, rfl, p, _, rfl, h1, o.rnok, by rw [o.tsz]; exact tot300 o.tot, by omega, fun H2 p2 s2 np2 h2 => ?_⟩
    rw [o.prs] at h2
    have hg := (HB.gru o hE).len o
    refine ⟨_, rfl, p2, E, _, rfl, h2, o.pc, hE, by rw [exR_pcs]; exact tot300 o.tot, by rw [exR_pcs]; omega, fun H3 p3 s3 np3 h3 => ?_⟩
    rw [exR_pcs] at h3
    exact k H3 p3 ((s1.trans s2).trans s3) ((s1.trans s2).free np3) h3
end
end Sl


end
section
set_option Elab.async false
set_option linter.all false
set_option maxRecDepth 100000
set_option maxHeartbeats 4000000
namespace Sl
open PySem PySem.Spec PyProof.Rows L2
def sApp : Str := "append"
def sEsc : Str := "escape"
def OpV (H : Hp) (x : V) (op : Op) : Prop := ∃ t, x = .ref t ∧ match op with
  | .inl k => H t = some (.tup [.str sEsc, vN k])
  | .inr rs => ∃ b, H t = some (.tup [.str sApp, .ref b]) ∧ LT H b (enR rs)
theorem OpV.same {H H' : Hp} (s : Same H H') {x : V} {op : Op} (h : OpV H x op) : OpV H' x op := by
  obtain ⟨t, e, h⟩ := h
  refine ⟨t, e, ?_⟩
  cases op with
  | inl k => exact s _ _ h
  | inr rs => obtain ⟨b, h1, h2⟩ := h; exact ⟨b, s _ _ h1, h2.same s⟩
def ST (H : Hp) (a : Addr) (ops : List Op) : Prop := ∃ xs, H a = some (.lst xs) ∧ Paired (OpV H) xs ops
theorem ST.same {H H' : Hp} {a : Addr} {ops : List Op} (h : ST H a ops) (s : Same H H') : ST H' a ops := by
  obtain ⟨xs, h1, h2⟩ := h
  exact ⟨xs, s _ _ h1, L2.Paired.mapP h2 fun _ _ => OpV.same s⟩
def OpOk : Op → Prop
  | .inl k => 1 ≤ k ∧ k ≤ 200
  | .inr rs => RnOk rs ∧ 1 ≤ rs.length ∧ rs.length ≤ 1000
theorem ST.row {H : Hp} {a : Addr} {ops : List Op} {xs : List V} {i : Nat} {x : V} (h : ST H a ops) (hx : H a = some (.lst xs)) (e : xs[i]? = some x) : ∃ op, ops[i]? = some op ∧ OpV H x op := by
  obtain ⟨ys, h1, h2⟩ := h
  rw [hx] at h1
  cases h1
  obtain ⟨r, e1, e2⟩ := Paired.get1 h2 e
  exact ⟨r, e1, e2⟩
theorem ST.lst {H : Hp} {a : Addr} {ops : List Op} (h : ST H a ops) : ∃ xs, H a = some (.lst xs) ∧ xs.length = ops.length := by
  obtain ⟨xs, h1, h2⟩ := h
  exact ⟨xs, h1, Paired.length h2⟩
section
variable {P : Program} {w : World} {K : PySem.W.Frag} {mg : Str → Option Value} {base : Heap}
/-! ### is_operation -/
def sp_is_operation : Sp := fun vs H Q _ => ∃ (x : V) (op : Op), vs = [x] ∧ OpV H x op ∧ OpOk op ∧ ∀ H', Same H H' → Q (.bl true) H'
abbrev n_is_operation : List Str := ["value"]
theorem sc_is_operation : FnScope n_is_operation ["value"] (defScope s_is_operation) := ⟨rfl, rfl, rfl, by decide +kernel, rfl, by decide +kernel, by decide +kernel⟩
theorem ok_is_operation (T : Txt K mg) : Cl P w K mg base CX0 "is_operation" ["value"] 4 [] sp_is_operation := by
  obtain ⟨fd, F⟩ := T.def_ 33 (d := d_is_operation) rfl
  have C_is_text := ok_is_text (P := P) (w := w) (base := base) T
  have C_is_integer3 := ok_is_integer3 (P := P) (w := w) (base := base) T
  refine cl_ok F (T.glo 30) (fun _ _ _ _ _ _ us hl => match us, hl with | [_], _ => rfl) sc_is_operation (fun vs H Q E h => ?_) (fun cdv A outer s H vs Q E hr h => ?_)
  · obtain ⟨x, op, rfl, _⟩ := h
    rfl
  · obtain ⟨x, op, rfl, hx, ho, k⟩ := h
    refine ⟨_, (pss_cons (ps_if (PW.pt (pw_or (pt_not (pt_val (pe_callB (call_isiTK K) (by rfl) (T.free 84) bt_isinstance (pa_cons (pv 0) (pa_cons (pe_tup (pa_cons (pe_ty (T.free 88) bt_list) (pa_cons (pe_ty (T.free 89) bt_tuple) pa_nil))) pa_nil))))) (pw_or (pt_cmpR oNe (pe_callB (call_len_seqK K) (by rfl) (T.free 83) bt_len (pa_cons (pv 0) pa_nil)) pe_int (nomark _)) (pw_or1 (pt_not (pt_val (pe_callB (call_isiK K) (by rfl) (T.free 84) bt_isinstance (pa_cons (pe_ix (ix_tupK K) (pv 0) pe_int (fun _ _ => rfl)) (pa_cons (pe_ty (T.free 86) bt_str) pa_nil)))))))))
        (pss_one (ps_ret pe_bl))
        pss_nil)
      (pss_cons (ps_if (pt_cmpR oEqS (pe_ix (ix_tupK K) (pv 0) pe_int (fun _ _ => rfl)) (pe_gs (T.str 106)) (nomark _))
        (pss_one (ps_ret (pe_and (pe_cl C_is_text (hr.mono (by decide)) (pa_cons (pe_ix (ix_tupK K) (pv 0) pe_int (fun _ _ => rfl)) pa_nil)) (pe_one (pe_cmpR oGt (pe_callB (call_len_seqK K) (by rfl) (T.free 83) bt_len (pa_cons (pe_ix (ix_tupK K) (pv 0) pe_int (fun _ _ => rfl)) pa_nil)) pe_int (nomark _))))))
        pss_nil)
      (pss_one (ps_ret (pe_and (pe_cmpR oEqS (pe_ix (ix_tupK K) (pv 0) pe_int (fun _ _ => rfl)) (pe_gs (T.str 107)) (nomark _)) (pe_one (pe_cl C_is_integer3 (hr.mono (by decide)) (pa_cons (pe_ix (ix_tupK K) (pv 0) pe_int (fun _ _ => rfl)) (pa_cons pe_int (pa_cons (pe_gi (T.int 102)) pa_nil)))))))))), ?_⟩
    obtain ⟨t, rfl, hx⟩ := hx
    cases op with
    | inl n =>
      have ht : H t = some (.tup [.str sEsc, vN n]) := hx
      obtain ⟨o1, o2⟩ := ho
      refine ⟨_, rfl, z2, fun p np => ?_⟩
      have s1 : Same H (upd H p (.tup [.ty "list", .ty "tuple"])) := Same.new np
      have ht1 := s1 _ _ ht
      refine ⟨_, p, _, _, _, true, rfl, upd_same, .cons (.ty _) (.cons (.ty _) .nil), .base (.tup ht1), ka_t, true, rfl, ?_⟩
      refine iteF ⟨_, rfl, t, _, rfl, .inr (SqT.h ht1), 2, 2, rfl, rfl, false, rfl, iteF ?_⟩
      refine ⟨_, rfl, t, _, _, _, rfl, rfl, SqT.h ht1, atI_nat (j := 0) rfl, _, _, _, _, true, rfl, .ty _, .base (.str _), kit_ty kb_str, true, rfl, iteF ?_⟩
      refine ⟨_, rfl, t, _, _, _, rfl, rfl, SqT.h ht1, atI_nat (j := 0) rfl, sEsc, sApp, rfl, rfl, false, rfl, iteF ?_⟩
      refine ⟨_, rfl, t, _, _, _, rfl, rfl, SqT.h ht1, atI_nat (j := 0) rfl, sEsc, sEsc, rfl, rfl, true, rfl, iteT ?_⟩
      refine ⟨_, rfl, t, _, _, _, rfl, rfl, SqT.h ht1, atI_nat (j := 1) rfl, n, 1, some 200, rfl, ?_⟩
      have e : inB n 1 (some 200) = true := by
        show (decide (1 ≤ n) && decide (n ≤ 200)) = true
        rw [decide_eq_true o1, decide_eq_true o2]; rfl
      show Q (.bl (inB n 1 (some 200))) _
      rw [e]
      exact k _ s1
    | inr rs =>
      obtain ⟨b, ht, hb⟩ := hx
      obtain ⟨o1, o2, o3⟩ := ho
      refine ⟨_, rfl, z2, fun p np => ?_⟩
      have s1 : Same H (upd H p (.tup [.ty "list", .ty "tuple"])) := Same.new np
      have ht1 := s1 _ _ ht
      refine ⟨_, p, _, _, _, true, rfl, upd_same, .cons (.ty _) (.cons (.ty _) .nil), .base (.tup ht1), ka_t, true, rfl, ?_⟩
      refine iteF ⟨_, rfl, t, _, rfl, .inr (SqT.h ht1), 2, 2, rfl, rfl, false, rfl, iteF ?_⟩
      refine ⟨_, rfl, t, _, _, _, rfl, rfl, SqT.h ht1, atI_nat (j := 0) rfl, _, _, _, _, true, rfl, .ty _, .base (.str _), kit_ty kb_str, true, rfl, iteF ?_⟩
      refine ⟨_, rfl, t, _, _, _, rfl, rfl, SqT.h ht1, atI_nat (j := 0) rfl, sApp, sApp, rfl, rfl, true, rfl, iteT ?_⟩
      refine ⟨_, rfl, t, _, _, _, rfl, rfl, SqT.h ht1, atI_nat (j := 1) rfl, b, rs, rfl, hb.same s1, o1, by omega, fun H2 s2 => ⟨true, rfl, iteT ?_⟩⟩
      have ht2 := s2 _ _ ht1
      obtain ⟨xs, hxs, hxl⟩ := ((hb.same s1).same s2).lst
      rw [enR_len] at hxl
      refine ⟨_, rfl, t, _, _, _, rfl, rfl, SqT.h ht2, atI_nat (j := 1) rfl, b, xs, rfl, .inl (SqL.h hxs), xs.length, 0, rfl, rfl, ?_⟩
      have e : V.bl (decide (0 < xs.length)) = V.bl true := decT (by omega)
      show Q (V.bl (decide (0 < xs.length))) _
      rw [e]
      exact k _ (s1.trans s2)
/-! ### history_of -/
def opEs (ops : List Op) : List Nat := ops.filterMap fun op => match op with
  | .inl k => some k
  | .inr _ => none
theorem opEs_sum : ∀ ops : List Op, (opEs ops).sum = opE ops
  | [] => rfl
  | .inl k :: r => by
    show ((k :: opEs r).sum) = k + opE r
    rw [List.sum_cons, opEs_sum r]
  | .inr rs :: r => opEs_sum r
def sp_history_of : Sp := fun vs H Q _ => ∃ (a : Addr) (ops : List Op), vs = [.ref a] ∧ ST H a ops ∧ (∀ op ∈ ops, OpOk op) ∧ ops.length ≤ 1000 ∧ opE ops ≤ 200 ∧ opN ops ≤ 10000 ∧ ∀ H' p, Same H H' → H p = none → LT H' p (enB (rn yes (opCs ops))) → Q (.ref p) H'
abbrev n_history_of : List Str := ["script", "one", "name", "value", "left", "blocks", "symbol", "count"]
theorem sc_history_of : FnScope n_history_of ["script"] (defScope s_history_of) := ⟨rfl, rfl, rfl, by decide +kernel, rfl, by decide +kernel, by decide +kernel⟩
theorem ok_history_of (T : Txt K mg) : Cl P w K mg base CX0 "history_of" ["script"] 5 [] sp_history_of := by
  obtain ⟨fd, F⟩ := T.def_ 34 (d := d_history_of) rfl
  have C_is_operation := ok_is_operation (P := P) (w := w) (base := base) T
  have C_add_block := ok_add_block (P := P) (w := w) (base := base) T
  refine cl_ok F (T.glo 31) (fun _ _ _ _ _ _ us hl => match us, hl with | [_], _ => rfl) sc_history_of (fun vs H Q E h => ?_) (fun cdv A outer s H vs Q E hr h => ?_)
  · obtain ⟨a, ops, rfl, _⟩ := h
    rfl
  · obtain ⟨a, ops, rfl, ha, ho, hz, hE, hN, k⟩ := h
    refine ⟨_, (pss_cons (ps_if (PW.pt (pw_or (pt_not (pt_val (pe_callB (call_isiTK K) (by rfl) (T.free 84) bt_isinstance (pa_cons (pv 0) (pa_cons (pe_tup (pa_cons (pe_ty (T.free 88) bt_list) (pa_cons (pe_ty (T.free 89) bt_tuple) pa_nil))) pa_nil))))) (pw_or1 (pt_not (pt_val (pe_callB (cr_allK K rfl) (by rfl) (T.free 81) bt_all (pa_cons (pe_lc (own := [("one", 1)]) (g := (gName 1)) (tt := tYes) rfl sc_history_of.nd (pi_list (pv 0)) (blkOk_by (N := n_history_of) (sc := defScope s_history_of) (by decide +kernel)) (fun _ _ _ _ _ => (pg_name (i := 1) sc_history_of.nd rfl (Or.inl rfl))) (fun _ _ _ _ _ => pts_nil) (fun _ _ _ _ _ => (pe_cl C_is_operation (hr.mono (by decide)) (pa_cons (pv 1) pa_nil)))) pa_nil)))))))
        (pss_one ps_never)
        pss_nil)
      (pss_cons (ps_set (i := 4) sc_history_of.nd rfl (Or.inl rfl) (pe_callB (cr_sumK K rfl) (by rfl) (T.free 90) bt_sum (pa_cons (pe_lc (own := [("name", 2), ("value", 3)]) (g := (gTup K 2 (gCons (gName 2) (gCons (gName 3) gNil)))) rfl sc_history_of.nd (pi_list (pv 0)) (blkOk_by (N := n_history_of) (sc := defScope s_history_of) (by decide +kernel)) (fun _ _ _ _ _ => (pg_tup rfl (pgs_cons (pg_name (i := 2) sc_history_of.nd rfl (Or.inl rfl)) (pgs_cons (pg_name (i := 3) sc_history_of.nd rfl (Or.inl rfl)) pgs_nil)))) (fun _ _ _ _ _ => (pts_one (pt_cmpR oEqS (pv 2) (pe_gs (T.str 107)) (nomark _)))) (fun _ _ _ _ _ => (pv 3))) pa_nil)))
      (pss_cons (ps_if (pt_cmpR oGt (pv 4) (pe_gi (T.int 102)) (nomark _))
        (pss_one ps_never)
        pss_nil)
      (pss_cons (ps_set (i := 5) sc_history_of.nd rfl (Or.inl rfl) (pe_lst pa_nil))
      (pss_cons (ps_for PassesOwn.never rfl (pi_list (pv 0)) (pg_tup rfl (pgs_cons (pg_name (i := 2) sc_history_of.nd rfl (Or.inl rfl)) (pgs_cons (pg_name (i := 3) sc_history_of.nd rfl (Or.inl rfl)) pgs_nil)))
        (pss_one (ps_if (pt_cmpR oEqS (pv 2) (pe_gs (T.str 107)) (nomark _))
          (pss_one (ps_aug (i := 4) sc_history_of.nd rfl (Or.inl rfl) (pv 3) iSub))
          (pss_one (ps_for PassesOwn.never rfl (pi_list (pv 3)) (pg_tup rfl (pgs_cons (pg_name (i := 6) sc_history_of.nd rfl (Or.inl rfl)) (pgs_cons (pg_name (i := 7) sc_history_of.nd rfl (Or.inl rfl)) pgs_nil)))
            (pss_one (ps_expr (pe_cl C_add_block (hr.mono (by decide)) (pa_cons (pv 5) (pa_cons (pv 6) (pa_cons (pv 4) (pa_cons (pv 7) pa_nil))))))))))))
      (pss_one (ps_ret (pv 5)))))))), ?_⟩
    obtain ⟨xs, hxs, hxl⟩ := ha.lst
    refine ⟨_, rfl, z2, fun p np => ?_⟩
    have s1 : Same H (upd H p (.tup [.ty "list", .ty "tuple"])) := Same.new np
    have ha1 := ha.same s1
    have hxs1 := s1 _ _ hxs
    refine ⟨_, p, _, _, _, true, rfl, upd_same, .cons (.ty _) (.cons (.ty _) .nil), .base (.lst hxs1), ka_l, true, rfl, iteF ?_⟩
    refine ⟨_, rfl, a, rfl, ⟨_, SqL.h hxs1⟩, fun D nD => lcL_flat (xs := xs) (fun _ => some (.bl true)) (by omega) nD (SqL.h hxs1) (fun i x H2 hx s2 Qc Qn t => ?_) fun H2 s2 hD => ?_⟩
    · obtain ⟨op, e1, e2⟩ := (ha1.same s2).row (s2 _ _ hxs1) hx
      exact El.name ⟨_, rfl, x, op, rfl, e2, ho _ (List.mem_of_getElem? e1), fun H3 s3 => t H3 s3⟩
    · refine ⟨D, List.replicate xs.length true, rfl, by rw [← fm_true]; exact SqL.h hD, true, congrArg V.bl (all_true _), iteF ?_⟩
      have ha2 := ha1.same s2
      have hxs2 := s2 _ _ hxs1
      refine ⟨_, rfl, a, rfl, ⟨_, SqL.h hxs2⟩, fun D2 nD2 => lcL_flat (xs := xs) (fun i => ops[i]?.bind fun op => match op with | .inl n => some (vN n) | .inr _ => none) (by omega) nD2 (SqL.h hxs2) (fun i x H3 hx s3 Qc Qn t => ?_) fun H3 s3 hD2 => ?_⟩
      · obtain ⟨op, e1, e2⟩ := (ha2.same s3).row (s3 _ _ hxs2) hx
        obtain ⟨t0, rfl, e2⟩ := e2
        cases op with
        | inl n =>
          have t' : ∀ H', Same H3 H' → Qc (vN n) H' := by
            unfold TurnF at t
            rw [e1] at t
            exact t
          have e3 : H3 t0 = some (.tup [.str sEsc, vN n]) := e2
          refine ⟨t0, _, rfl, SqT.h e3, rfl, _, _, rfl, _, _, rfl, rfl, rfl, ?_⟩
          refine ⟨_, rfl, sEsc, sEsc, rfl, rfl, true, rfl, ?_⟩
          exact ⟨_, rfl, t' _ (Same.refl _)⟩
        | inr rs =>
          have t' : ∀ H', Same H3 H' → Qn H' := by
            unfold TurnF at t
            rw [e1] at t
            exact t
          obtain ⟨b, e3, _⟩ := e2
          refine ⟨t0, _, rfl, SqT.h e3, rfl, _, _, rfl, _, _, rfl, rfl, rfl, ?_⟩
          refine ⟨_, rfl, sApp, sEsc, rfl, rfl, false, rfl, ?_⟩
          exact t' _ (Same.refl _)
      · have e : (List.range xs.length).filterMap (fun i => ops[i]?.bind fun op => match op with | .inl n => some (vN n) | .inr _ => none) = ((opEs ops).map fun n : Nat => (n : Int)).map V.int := by
          rw [hxl, fm_rows (k := fun op : Op => match op with | .inl n => some (vN n) | .inr _ => none) (fun i r h => by rw [h]; rfl), List.map_map]
          unfold opEs
          rw [List.map_filterMap]
          congr 1
          funext op
          cases op <;> rfl
        rw [e] at hD2
        refine ⟨D2, _, rfl, SqL.h hD2, ?_⟩
        rw [sum_cast, opEs_sum]
        have ha3 := ha2.same s3
        have hxs3 := s3 _ _ hxs2
        have s13 := (s1.trans s2).trans s3
        refine ⟨_, rfl, opE ops, 200, rfl, rfl, false, decF (by omega), iteF ?_⟩
        refine ⟨z0, fun l nl => ?_⟩
        have s4 : Same H3 (upd H3 l (.lst [])) := Same.new nl
        have nl0 : H l = none := s13.free nl
        have full : (opB (opE ops) ops).length ≤ 10000 := by rw [opB_len]; exact hN
        have sym : ∀ c ∈ opCs ops, Sym c.1 := fun c hc => by
          obtain ⟨x, hx, rfl⟩ := mem_exR1 hc
          obtain ⟨rs, h1, h2⟩ := opB_mem _ _ x hx
          exact (ho _ h1).1.sym (x.1.1, x.2) h2
        have pre : ∀ C, (∃ R, C ++ R = opCs ops) → (rn yes C).length ≤ 10000 ∧ ∀ c ∈ C, Sym c.1 := fun C ⟨R, hR⟩ =>
          ⟨Nat.le_trans (rn_mono C R) (by rw [hR]; exact Nat.le_trans (rnl_ex _) full), fun c hc => sym c (by rw [← hR]; exact List.mem_append_left _ hc)⟩
        refine ⟨_, rfl, a, rfl, ⟨_, SqL.h (s4 _ _ hxs3)⟩, for_list (K := K) (a := a) (xs := xs) (fun i σ H' => Same H H' ∧ ∃ (L : Nat) (v1 v2 v3 v6 v7 : Option V) (C : List Ch), σ = [some (.ref a), v1, v2, v3, some (vN L), some (.ref l), v6, v7] ∧ opE (ops.drop i) ≤ L ∧ opCs ops = C ++ exR (opB L (ops.drop i)) ∧ LT H' l (enB (rn yes C)))
          ⟨s13.trans s4, opE ops, none, none, none, none, none, [], rfl, Nat.le_refl _, rfl, LT.nil upd_same⟩ (fun i σ H' _ h => SqL.h (h.1 _ _ hxs)) ?_ ?_⟩
        · rintro i x σ H' hx ⟨sH, L, v1, v2, v3, v6, v7, C, rfl, hL, hC, hl⟩
          obtain ⟨op, e1, e2⟩ := ha.row hxs hx
          have mem := List.mem_of_getElem? e1
          rw [opE_drop e1] at hL hC
          obtain ⟨t0, rfl, e2⟩ := e2
          cases op with
          | inl n =>
            have e3 : H' t0 = some (.tup [.str sEsc, vN n]) := sH _ _ e2
            have hL' : n + opE (ops.drop (i + 1)) ≤ L := hL
            have hC' : opCs ops = C ++ exR (opB (L - n) (ops.drop (i + 1))) := hC
            refine ⟨t0, _, rfl, SqT.h e3, rfl, _, _, rfl, _, _, rfl, rfl, ?_⟩
            refine ⟨_, rfl, sEsc, sEsc, rfl, rfl, true, rfl, iteT ?_⟩
            refine ⟨_, rfl, _, rfl, L, n, rfl, rfl, by omega, sH, L - n, _, _, _, _, _, C, rfl, by omega, hC', hl⟩
          | inr rs =>
            obtain ⟨b, e30, hb0⟩ := e2
            have e3 := sH _ _ e30
            have hb := hb0.same sH
            have hL' : opE (ops.drop (i + 1)) ≤ L := hL
            have hC' : opCs ops = C ++ exR (rs.map (fun x => ((x.1, L), x.2)) ++ opB L (ops.drop (i + 1))) := hC
            obtain ⟨ys, hys, hyl⟩ := hb.lst
            rw [enR_len] at hyl
            rw [exR_app, ← List.append_assoc] at hC'
            have nb : b ≠ l := by
              rintro rfl
              obtain ⟨q, hq, _⟩ := hb0.lst
              rw [nl0] at hq; cases hq
            refine ⟨t0, _, rfl, SqT.h e3, rfl, _, _, rfl, _, _, rfl, rfl, ?_⟩
            refine ⟨_, rfl, sApp, sEsc, rfl, rfl, false, rfl, iteF ?_⟩
            refine ⟨_, rfl, b, rfl, ⟨_, SqL.h hys⟩, for_list (K := K) (a := b) (xs := ys) (fun j σ H2 => Mod l H' H2 ∧ ∃ (v6 v7 : Option V), σ = [some (.ref a), v1, some (.str sApp), some (.ref b), some (vN L), some (.ref l), v6, v7] ∧ LT H2 l (enB (rn yes (C ++ exR ((rs.take j).map fun x => ((x.1, L), x.2))))))
              ⟨Mod.refl, v6, v7, rfl, by show LT H' l (enB (rn yes (C ++ []))); rw [List.append_nil]; exact hl⟩ (fun j σ H2 _ h => SqL.h (h.1 _ _ nb hys)) ?_ ?_⟩
            · rintro j y σ H2 hy ⟨mH, w6, w7, rfl, hl2⟩
              obtain ⟨qs, hqs, _⟩ := hl.lst
              obtain ⟨r, t1, f1, rfl, f3⟩ := (hb.mod nb hqs mH).row (mH _ _ nb hys) hy
              obtain ⟨⟨z, c⟩, f4, rfl⟩ := enR_get f1
              have hsz : Sym z := (ho _ mem).1.sym (z, c) (List.mem_of_getElem? f4)
              have eC : C ++ exR ((rs.take (j + 1)).map fun x => ((x.1, L), x.2)) = C ++ exR ((rs.take j).map fun x => ((x.1, L), x.2)) ++ List.replicate c (z, L) := by
                rw [take_more f4, List.map_append, exR_app, ← List.append_assoc]
                show _ ++ (List.replicate c (z, L) ++ []) = _
                rw [List.append_nil]
              have pC := pre (C ++ exR ((rs.take j).map fun x => ((x.1, L), x.2))) ⟨exR ((rs.drop j).map fun x => ((x.1, L), x.2)) ++ exR (opB L (ops.drop (i + 1))), by
                rw [hC', ← List.append_assoc, List.append_assoc C, ← exR_app, ← List.map_append, List.take_append_drop]⟩
              refine ⟨t1, _, rfl, SqT.h f3, rfl, _, _, rfl, _, _, rfl, rfl, ?_⟩
              refine ⟨_, rfl, _, rfl, _, rfl, _, rfl, l, z, L, c, _, rfl, hl2, rn_sym pC.2, hsz, by have := pC.1; omega, fun H3 m3 h3 => ?_⟩
              rw [← rn_rep _ _ rfl, ← eC] at h3
              exact ⟨mH.trans m3, _, _, rfl, h3⟩
            · rintro σ H2 ⟨mH, w6, w7, rfl, hl2⟩
              have et : rs.take ys.length = rs := by rw [hyl]; exact List.take_length
              rw [et] at hl2
              exact ⟨mH.same sH nl0, L, _, _, _, _, _, _, rfl, hL', hC', hl2⟩
        · rintro σ H' ⟨sH, L, v1, v2, v3, v6, v7, C, rfl, hL, hC, hl⟩
          have et : ops.drop xs.length = [] := by rw [hxl]; exact List.drop_length
          rw [et] at hC
          have : opCs ops = C := hC.trans (List.append_nil _)
          rw [← this] at hl
          exact ⟨_, rfl, k H' l sH nl0 hl⟩
end
end Sl


end
section
set_option Elab.async false
set_option linter.all false
set_option maxRecDepth 100000
set_option maxHeartbeats 4000000
namespace Sl
open PySem PySem.Spec PyProof.Rows L2
theorem len_sum (bs : List (Ch × Nat)) : (bs.map fun x => x.2 * wd x.1.1 x.1.2).sum = (lvs (exR bs)).length := by
  induction bs with
  | nil => rfl
  | cons b r ih =>
    rw [exR_cons, lvs_app, List.length_append, List.map_cons, List.sum_cons, ih]
    have e : lvs (List.replicate b.2 b.1) = List.replicate (b.2 * wd b.1.1 b.1.2) b.1.2 := lvs_rep b.1.1 b.1.2 b.2
    rw [e, List.length_replicate]
def rCT (t : CT) : List V := [vN t.1, .str t.2.1, vN t.2.2.1, vN t.2.2.2.1, vN t.2.2.2.2]
theorem BsOk.wid {bs : List (Ch × Nat)} (o : BsOk bs) {z : Sy} {lv c : Nat} (m : ((z, lv), c) ∈ bs) : 1 ≤ c ∧ lv ≤ 200 ∧ Sym z ∧ 1 ≤ wd z lv ∧ c * wd z lv < 2 ^ 300 ∧ c < 2 ^ 400 ∧ wd z lv < 2 ^ 400 := by
  have hc1 : 1 ≤ c := o.pos _ m
  have hcw : c * wd z lv < 2 ^ 300 := Nat.lt_of_le_of_lt (lvs_mem m) o.len
  have hw1 := wd_pos z lv
  exact ⟨hc1, o.lvl _ m, o.sym _ m, hw1, hcw, p400 (Nat.lt_of_le_of_lt (Nat.le_mul_of_pos_right c hw1) hcw) (by decide), p400 (Nat.lt_of_le_of_lt (Nat.le_mul_of_pos_left (wd z lv) hc1) hcw) (by decide)⟩
section
variable {P : Program} {w : World} {K : PySem.W.Frag} {mg : Str → Option Value} {base : Heap}
/-! ### length_by -/
def sp_length_by : Sp := fun vs H Q _ => ∃ (h : Addr) (bs : List (Ch × Nat)), vs = [.ref h] ∧ LT H h (enB bs) ∧ BsOk bs ∧ ∀ H', Same H H' → Q (vN (lvs (exR bs)).length) H'
abbrev n_length_by : List Str := ["blocks", "symbol", "level", "count"]
theorem sc_length_by : FnScope n_length_by ["blocks"] (defScope s_length_by) := ⟨rfl, rfl, rfl, by decide +kernel, rfl, by decide +kernel, by decide +kernel⟩
theorem ok_length_by (T : Txt K mg) : Cl P w K mg base CX0 "length_by" ["blocks"] 3 [] sp_length_by := by
  obtain ⟨fd, F⟩ := T.def_ 35 (d := d_length_by) rfl
  have C_width_of := ok_width_of (P := P) (w := w) (base := base) T
  refine cl_ok F (T.glo 32) (fun _ _ _ _ _ _ us hl => match us, hl with | [_], _ => rfl) sc_length_by (fun vs H Q E h => ?_) (fun cdv A outer s H vs Q E hr h => ?_)
  · obtain ⟨a, bs, rfl, _⟩ := h
    rfl
  · obtain ⟨hh, bs, rfl, h1, o, k⟩ := h
    refine ⟨_, (pss_one (ps_ret (pe_callB (cr_sumK K rfl) (by rfl) (T.free 90) bt_sum (pa_cons (pe_lc (own := [("symbol", 1), ("level", 2), ("count", 3)]) (g := (gTup K 3 (gCons (gName 1) (gCons (gName 2) (gCons (gName 3) gNil))))) (tt := tYes) rfl sc_length_by.nd (pi_list (pv 0)) (blkOk_by (N := n_length_by) (sc := defScope s_length_by) (by decide +kernel)) (fun _ _ _ _ _ => (pg_tup rfl (pgs_cons (pg_name (i := 1) sc_length_by.nd rfl (Or.inl rfl)) (pgs_cons (pg_name (i := 2) sc_length_by.nd rfl (Or.inl rfl)) (pgs_cons (pg_name (i := 3) sc_length_by.nd rfl (Or.inl rfl)) pgs_nil))))) (fun _ _ _ _ _ => pts_nil) (fun _ _ _ _ _ => (pe_op oMul (pv 3) (pe_cl C_width_of (hr.mono (by decide)) (pa_cons (pv 1) (pa_cons (pv 2) pa_nil)))))) pa_nil)))), ?_⟩
    have hlen := o.num
    obtain ⟨xs, hxs, hxl⟩ := h1.lst
    rw [enB_len] at hxl
    refine ⟨_, rfl, hh, rfl, ⟨_, SqL.h hxs⟩, fun D nD => lcL_flat (xs := xs) (fun i => bs[i]?.map fun x => vN (x.2 * wd x.1.1 x.1.2)) (by omega) nD (SqL.h hxs) (fun i x H2 hx s2 Qc Qn t => ?_) fun H2 s2 hD => ?_⟩
    · obtain ⟨r, t0, e1, rfl, e3⟩ := (h1.same s2).row (s2 _ _ hxs) hx
      obtain ⟨⟨⟨z, lv⟩, c⟩, e4, rfl⟩ := enB_get e1
      obtain ⟨_, hlv, _, _, _, hc, hw⟩ := o.wid (List.mem_of_getElem? e4)
      have t' : ∀ H', Same H2 H' → Qc (vN (c * wd z lv)) H' := by
        unfold TurnF at t
        rw [e4] at t
        exact t
      refine ⟨t0, _, rfl, SqT.h e3, rfl, _, _, rfl, _, _, rfl, _, _, rfl, rfl, rfl, ?_⟩
      exact ⟨_, rfl, _, rfl, _, rfl, z, lv, rfl, by omega, c, _, rfl, rfl, ⟨hc, hw⟩, t' _ (Same.refl _)⟩
    · have e : (List.range xs.length).filterMap (fun i => bs[i]?.map fun x => vN (x.2 * wd x.1.1 x.1.2)) = ((bs.map fun x => x.2 * wd x.1.1 x.1.2).map fun n : Nat => (n : Int)).map V.int := by
        rw [hxl, fm_rows (k := fun x : Ch × Nat => some (vN (x.2 * wd x.1.1 x.1.2))) (fun i r h => by rw [h]; rfl), List.map_map, List.map_map]
        exact congrFun List.filterMap_eq_map bs
      rw [e] at hD
      refine ⟨D, _, rfl, SqL.h hD, ?_⟩
      rw [sum_cast, len_sum]
      exact k _ s2
/-! ### character_by -/
def sp_character_by : Sp := fun vs H Q _ => ∃ (h : Addr) (bs : List (Ch × Nat)) (p : Nat) (t : CT), vs = [.ref h, vN p] ∧ LT H h (enB bs) ∧ BsOk bs ∧ cAt 0 0 (exR bs) p = some t ∧ ∀ H' q, Same H H' → H q = none → H' q = some (.tup (rCT t)) → Q (.ref q) H'
abbrev n_character_by : List Str := ["blocks", "position", "number", "start", "symbol", "level", "count", "size", "place"]
theorem sc_character_by : FnScope n_character_by ["blocks", "position"] (defScope s_character_by) := ⟨rfl, rfl, rfl, by decide +kernel, rfl, by decide +kernel, by decide +kernel⟩
theorem ok_character_by (T : Txt K mg) : Cl P w K mg base CX0 "character_by" ["blocks", "position"] 3 [] sp_character_by := by
  obtain ⟨fd, F⟩ := T.def_ 36 (d := d_character_by) rfl
  have C_width_of := ok_width_of (P := P) (w := w) (base := base) T
  refine cl_ok F (T.glo 33) (fun _ _ _ _ _ _ us hl => match us, hl with | [_, _], _ => rfl) sc_character_by (fun vs H Q E h => ?_) (fun cdv A outer s H vs Q E hr h => ?_)
  · obtain ⟨a, bs, p, t, rfl, _⟩ := h
    rfl
  · obtain ⟨hh, bs, p, t, rfl, h1, o, ht, k⟩ := h
    refine ⟨_, (pss_cons (ps_asg (pe_tup (pa_cons pe_int (pa_cons pe_int pa_nil))) (pg_tup rfl (pgs_cons (pg_name (i := 2) sc_character_by.nd rfl (Or.inl rfl)) (pgs_cons (pg_name (i := 3) sc_character_by.nd rfl (Or.inl rfl)) pgs_nil))))
      (pss_cons (ps_for PassesOwn.never rfl (pi_list (pv 0)) (pg_tup rfl (pgs_cons (pg_name (i := 4) sc_character_by.nd rfl (Or.inl rfl)) (pgs_cons (pg_name (i := 5) sc_character_by.nd rfl (Or.inl rfl)) (pgs_cons (pg_name (i := 6) sc_character_by.nd rfl (Or.inl rfl)) pgs_nil))))
        (pss_cons (ps_set (i := 7) sc_character_by.nd rfl (Or.inl rfl) (pe_cl C_width_of (hr.mono (by decide)) (pa_cons (pv 4) (pa_cons (pv 5) pa_nil))))
        (pss_cons (ps_if (pt_cmpR oLt (pv 1) (pe_op oAdd (pv 3) (pe_op oMul (pv 6) (pv 7))) (nomark _))
          (pss_cons (ps_set (i := 8) sc_character_by.nd rfl (Or.inl rfl) (pe_op oDiv (pe_op oSub (pv 1) (pv 3)) (pv 7)))
          (pss_one (ps_ret (pe_tup (pa_cons (pe_op oAdd (pv 2) (pv 8)) (pa_cons (pv 4) (pa_cons (pv 5) (pa_cons (pe_op oAdd (pv 3) (pe_op oMul (pv 8) (pv 7))) (pa_cons (pv 7) pa_nil)))))))))
          pss_nil)
        (pss_cons (ps_aug (i := 2) sc_character_by.nd rfl (Or.inl rfl) (pv 6) iAdd)
        (pss_one (ps_aug (i := 3) sc_character_by.nd rfl (Or.inl rfl) (pe_op oMul (pv 6) (pv 7)) iAdd))))))
      (pss_one (ps_ret pe_non)))), ?_⟩
    obtain ⟨xs, hxs, hxl⟩ := h1.lst
    rw [enB_len] at hxl
    refine ⟨z2, fun q0 nq0 => ?_⟩
    have s0 : Same H (upd H q0 (.tup [.int 0, .int 0])) := Same.new nq0
    refine ⟨q0, _, rfl, SqT.h upd_same, rfl, _, _, rfl, _, _, rfl, rfl, _, rfl, hh, rfl, ⟨_, SqL.h (s0 _ _ hxs)⟩, for_list (K := K) (a := hh) (xs := xs) (fun i σ H' => Same H H' ∧ ∃ (N S : Nat) (v4 v5 v6 v7 v8 : Option V), σ = [some (.ref hh), some (vN p), some (vN N), some (vN S), v4, v5, v6, v7, v8] ∧ S ≤ p ∧ cAt N S (exR (bs.drop i)) p = some t)
      ⟨s0, 0, 0, none, none, none, none, none, rfl, Nat.zero_le _, ht⟩ (fun i σ H' _ h => SqL.h (h.1 _ _ hxs)) ?_ ?_⟩
    · rintro i x σ H' hx ⟨sH, N, S, v4, v5, v6, v7, v8, rfl, hS, hc⟩
      obtain ⟨r, t0, e1, rfl, e3⟩ := (h1.same sH).row (sH _ _ hxs) hx
      obtain ⟨⟨⟨z, lv⟩, c⟩, e4, rfl⟩ := enB_get e1
      obtain ⟨hc1, hlv, _, hw1, hcw, hcb, hwb⟩ := o.wid (List.mem_of_getElem? e4)
      rw [dropc e4, exR_cons, cAt_rep _ _ _ _ hS] at hc
      refine ⟨t0, _, rfl, SqT.h e3, rfl, _, _, rfl, _, _, rfl, _, _, rfl, rfl, ?_⟩
      refine ⟨_, rfl, _, rfl, z, lv, rfl, by omega, ?_⟩
      refine ⟨_, rfl, _, rfl, _, rfl, _, rfl, c, wd z lv, rfl, rfl, ⟨hcb, hwb⟩, S, c * wd z lv, rfl, rfl, p, S + c * wd z lv, rfl, rfl, _, rfl, ite2 (fun hp => ?_) (fun hp => ?_)⟩
      · have hp' : p < S + c * wd z lv := of_decide_eq_true hp
        rw [if_pos hp'] at hc
        have hq : (p - S) / wd z lv ≤ c := by
          have : (p - S) / wd z lv < c := Nat.div_lt_of_lt_mul (by rw [Nat.mul_comm]; omega)
          omega
        refine ⟨_, rfl, _, rfl, p, S, rfl, rfl, hS, _, rfl, p - S, wd z lv, rfl, rfl, ⟨hw1, hwb⟩, ?_⟩
        refine ⟨_, rfl, _, rfl, N, (p - S) / wd z lv, rfl, rfl, _, rfl, _, rfl, _, rfl, _, rfl, _, rfl, (p - S) / wd z lv, wd z lv, rfl, rfl, ⟨Nat.lt_of_le_of_lt hq hcb, hwb⟩, S, _, rfl, rfl, _, rfl, z5, fun q nq => ?_⟩
        have s2 : Same H' (upd H' q (.tup (rCT (N + (p - S) / wd z lv, z, lv, S + (p - S) / wd z lv * wd z lv, wd z lv)))) := Same.new nq
        refine k _ q (sH.trans s2) (sH.free nq) ?_
        rw [← Option.some.inj hc]
        exact upd_same
      · have hp' : ¬ p < S + c * wd z lv := fun q => hp (decide_eq_true q)
        rw [if_neg hp'] at hc
        refine ⟨_, rfl, _, rfl, N, c, rfl, rfl, ?_⟩
        refine ⟨_, rfl, _, rfl, _, rfl, c, wd z lv, rfl, rfl, ⟨hcb, hwb⟩, S, c * wd z lv, rfl, rfl, ?_⟩
        exact ⟨sH, N + c, S + c * wd z lv, _, _, _, _, _, rfl, by omega, hc⟩
    · rintro σ H' ⟨sH, N, S, v4, v5, v6, v7, v8, rfl, hS, hc⟩
      have et : bs.drop xs.length = [] := by rw [hxl]; exact List.drop_length
      rw [et] at hc
      cases hc
/-! ### numbered_by -/
def sp_numbered_by : Sp := fun vs H Q _ => ∃ (h : Addr) (bs : List (Ch × Nat)) (n : Nat), vs = [.ref h, vN n] ∧ LT H h (enB bs) ∧ BsOk bs ∧ match nA (exR bs) n with
  | some t => ∀ H' q, Same H H' → H q = none → H' q = some (.tup (rCT t)) → Q (.ref q) H'
  | none => ∀ H', Same H H' → Q .non H'
abbrev n_numbered_by : List Str := ["blocks", "number", "first", "start", "symbol", "level", "count", "size"]
theorem sc_numbered_by : FnScope n_numbered_by ["blocks", "number"] (defScope s_numbered_by) := ⟨rfl, rfl, rfl, by decide +kernel, rfl, by decide +kernel, by decide +kernel⟩
theorem ok_numbered_by (T : Txt K mg) : Cl P w K mg base CX0 "numbered_by" ["blocks", "number"] 3 [] sp_numbered_by := by
  obtain ⟨fd, F⟩ := T.def_ 37 (d := d_numbered_by) rfl
  have C_width_of := ok_width_of (P := P) (w := w) (base := base) T
  refine cl_ok F (T.glo 34) (fun _ _ _ _ _ _ us hl => match us, hl with | [_, _], _ => rfl) sc_numbered_by (fun vs H Q E h => ?_) (fun cdv A outer s H vs Q E hr h => ?_)
  · obtain ⟨a, bs, n, rfl, _⟩ := h
    rfl
  · obtain ⟨hh, bs, n, rfl, h1, o, k⟩ := h
    refine ⟨_, (pss_cons (ps_asg (pe_tup (pa_cons pe_int (pa_cons pe_int pa_nil))) (pg_tup rfl (pgs_cons (pg_name (i := 2) sc_numbered_by.nd rfl (Or.inl rfl)) (pgs_cons (pg_name (i := 3) sc_numbered_by.nd rfl (Or.inl rfl)) pgs_nil))))
      (pss_cons (ps_for PassesOwn.never rfl (pi_list (pv 0)) (pg_tup rfl (pgs_cons (pg_name (i := 4) sc_numbered_by.nd rfl (Or.inl rfl)) (pgs_cons (pg_name (i := 5) sc_numbered_by.nd rfl (Or.inl rfl)) (pgs_cons (pg_name (i := 6) sc_numbered_by.nd rfl (Or.inl rfl)) pgs_nil))))
        (pss_cons (ps_set (i := 7) sc_numbered_by.nd rfl (Or.inl rfl) (pe_cl C_width_of (hr.mono (by decide)) (pa_cons (pv 4) (pa_cons (pv 5) pa_nil))))
        (pss_cons (ps_if (pt_cmpR oLt (pv 1) (pe_op oAdd (pv 2) (pv 6)) (nomark _))
          (pss_one (ps_ret (pe_tup (pa_cons (pv 1) (pa_cons (pv 4) (pa_cons (pv 5) (pa_cons (pe_op oAdd (pv 3) (pe_op oMul (pe_op oSub (pv 1) (pv 2)) (pv 7))) (pa_cons (pv 7) pa_nil))))))))
          pss_nil)
        (pss_cons (ps_aug (i := 2) sc_numbered_by.nd rfl (Or.inl rfl) (pv 6) iAdd)
        (pss_one (ps_aug (i := 3) sc_numbered_by.nd rfl (Or.inl rfl) (pe_op oMul (pv 6) (pv 7)) iAdd))))))
      (pss_one (ps_ret pe_non)))), ?_⟩
    obtain ⟨xs, hxs, hxl⟩ := h1.lst
    rw [enB_len] at hxl
    refine ⟨z2, fun q0 nq0 => ?_⟩
    have s0 : Same H (upd H q0 (.tup [.int 0, .int 0])) := Same.new nq0
    refine ⟨q0, _, rfl, SqT.h upd_same, rfl, _, _, rfl, _, _, rfl, rfl, _, rfl, hh, rfl, ⟨_, SqL.h (s0 _ _ hxs)⟩, for_list (K := K) (a := hh) (xs := xs) (fun i σ H' => Same H H' ∧ ∃ (v4 v5 v6 v7 : Option V), σ = [some (.ref hh), some (vN n), some (vN (exR (bs.take i)).length), some (vN (lvs (exR (bs.take i))).length), v4, v5, v6, v7] ∧ (exR (bs.take i)).length ≤ n)
      ⟨s0, none, none, none, none, rfl, Nat.zero_le _⟩ (fun i σ H' _ h => SqL.h (h.1 _ _ hxs)) ?_ ?_⟩
    · rintro i x σ H' hx ⟨sH, v4, v5, v6, v7, rfl, hS⟩
      obtain ⟨r, t0, e1, rfl, e3⟩ := (h1.same sH).row (sH _ _ hxs) hx
      obtain ⟨⟨⟨z, lv⟩, c⟩, e4, rfl⟩ := enB_get e1
      obtain ⟨hc1, hlv, _, hw1, hcw, hcb, hwb⟩ := o.wid (List.mem_of_getElem? e4)
      have em := exB_more e4
      have full : exR bs = exR (bs.take i) ++ (List.replicate c (z, lv) ++ exR (bs.drop (i + 1))) := by
        rw [exR_take_drop bs (i + 1), em, List.append_assoc]
      rw [full] at k
      generalize hg : exR (bs.take i) = pre at hS em k ⊢
      refine ⟨t0, _, rfl, SqT.h e3, rfl, _, _, rfl, _, _, rfl, _, _, rfl, rfl, ?_⟩
      refine ⟨_, rfl, _, rfl, z, lv, rfl, by omega, ?_⟩
      refine ⟨_, rfl, _, rfl, _, rfl, pre.length, c, rfl, rfl, n, pre.length + c, rfl, rfl, _, rfl, ite2 (fun hp => ?_) (fun hp => ?_)⟩
      · have hp' : n < pre.length + c := of_decide_eq_true hp
        rw [nA_rep hS hp'] at k
        refine ⟨_, rfl, _, rfl, _, rfl, _, rfl, _, rfl, _, rfl, n, pre.length, rfl, rfl, hS, _, rfl, n - pre.length, wd z lv, rfl, rfl, ⟨by omega, hwb⟩, (lvs pre).length, _, rfl, rfl, _, rfl, z5, fun q nq => ?_⟩
        have s2 : Same H' (upd H' q (.tup (rCT (n, z, lv, (lvs pre).length + (n - pre.length) * wd z lv, wd z lv)))) := Same.new nq
        exact k _ q (sH.trans s2) (sH.free nq) upd_same
      · have hp' : ¬ n < pre.length + c := fun q => hp (decide_eq_true q)
        refine ⟨_, rfl, _, rfl, pre.length, c, rfl, rfl, ?_⟩
        refine ⟨_, rfl, _, rfl, _, rfl, c, wd z lv, rfl, rfl, ⟨hcb, hwb⟩, (lvs pre).length, c * wd z lv, rfl, rfl, ?_⟩
        refine ⟨sH, some (.str z), some (vN lv), some (vN c), some (vN (wd z lv)), ?_, ?_⟩
        · rw [em, lvs_app, lvs_rep, List.length_append, List.length_append, List.length_replicate, List.length_replicate]; rfl
        · rw [em, List.length_append, List.length_replicate]
          show pre.length + c ≤ n
          omega
    · rintro σ H' ⟨sH, v4, v5, v6, v7, rfl, hS⟩
      have et : bs.take xs.length = bs := by rw [hxl]; exact List.take_length
      rw [et] at hS
      have : nA (exR bs) n = none := by
        unfold nA
        rw [List.getElem?_eq_none hS]; rfl
      rw [this] at k
      exact k _ sH
/-! ### greatest_level -/
def sp_greatest_level : Sp := fun vs H Q _ => ∃ (a : Addr) (U : List Un) (E p : Nat), vs = [.ref a, vN E, vN p] ∧ LT H a (enR (rnT U)) ∧ UB U ∧ E ≤ 200 ∧ p < tot U ∧ ∀ H', Same H H' → Q (vN (lev (lvs (gru E U)) p)) H'
abbrev n_greatest_level : List Str := ["text", "escapes", "position", "runs"]
theorem sc_greatest_level : FnScope n_greatest_level ["text", "escapes", "position"] (defScope s_greatest_level) := ⟨rfl, rfl, rfl, by decide +kernel, rfl, by decide +kernel, by decide +kernel⟩
theorem ok_greatest_level (T : Txt K mg) : Cl P w K mg base CX0 "greatest_level" ["text", "escapes", "position"] 5 [] sp_greatest_level := by
  obtain ⟨fd, F⟩ := T.def_ 38 (d := d_greatest_level) rfl
  have C_checked_text := ok_checked_text (P := P) (w := w) (base := base) T
  have C_check_escapes := ok_check_escapes (P := P) (w := w) (base := base) T
  have C_check_position := ok_check_position (P := P) (w := w) (base := base) T
  have C_size_of := ok_size_of (P := P) (w := w) (base := base) T
  have C_character_by := ok_character_by (P := P) (w := w) (base := base) T
  have C_greatest_by := ok_greatest_by (P := P) (w := w) (base := base) T
  have C_pieces_of_text := ok_pieces_of_text (P := P) (w := w) (base := base) T
  refine cl_ok F (T.glo 35) (fun _ _ _ _ _ _ us hl => match us, hl with | [_, _, _], _ => rfl) sc_greatest_level (fun vs H Q E h => ?_) (fun cdv A outer s H vs Q E hr h => ?_)
  · obtain ⟨a, U, E, p, rfl, _⟩ := h
    rfl
  · obtain ⟨a, U, E, p, rfl, ha, o, hE, hp, k⟩ := h
    refine ⟨_, (pss_cons (ps_set (i := 3) sc_greatest_level.nd rfl (Or.inl rfl) (pe_cl C_checked_text (hr.mono (by decide)) (pa_cons (pv 0) pa_nil)))
      (pss_cons (ps_expr (pe_cl C_check_escapes (hr.mono (by decide)) (pa_cons (pv 1) pa_nil)))
      (pss_cons (ps_expr (pe_cl C_check_position (hr.mono (by decide)) (pa_cons (pv 2) (pa_cons (pe_op oSub (pe_cl C_size_of (hr.mono (by decide)) (pa_cons (pv 3) pa_nil)) pe_int) pa_nil))))
      (pss_one (ps_ret (pe_ix (ix_tupK K) (pe_cl C_character_by (hr.mono (by decide)) (pa_cons (pe_cl C_greatest_by (hr.mono (by decide)) (pa_cons (pe_cl C_pieces_of_text (hr.mono (by decide)) (pa_cons (pv 3) pa_nil)) (pa_cons (pv 1) pa_nil))) (pa_cons (pv 2) pa_nil))) pe_int (fun _ _ => rfl))))))), ?_⟩
    have hr := o.run
    refine ⟨_, rfl, a, _, rfl, ha, o.rnok, by omega, fun H1 q s1 nq h1 => ?_⟩
    refine ⟨_, rfl, E, rfl, hE, ?_⟩
    refine ⟨_, rfl, _, rfl, q, _, rfl, h1, by omega, fun H2 s2 => ?_⟩
    rw [o.tsz]
    have h2 := h1.same s2
    refine ⟨tot U, 1, rfl, rfl, by omega, p, tot U - 1, rfl, by omega, ?_⟩
    refine ⟨_, rfl, q, _, rfl, h2, o.rnok, by rw [o.tsz]; exact tot300 o.tot, by omega, fun H3 p2 s3 np2 h3 => ?_⟩
    rw [o.prs] at h3
    have hb := HB.gru o hE
    have hg := hb.len o
    refine ⟨_, rfl, p2, E, _, rfl, h3, o.pc, hE, by rw [exR_pcs]; exact tot300 o.tot, by rw [exR_pcs]; omega, fun H4 p4 s4 np4 h4 => ?_⟩
    rw [exR_pcs] at h4
    obtain ⟨t, ht, hq⟩ := cAt_some (cs := gru E U) (n := 0) (st := 0) (p := p) (Nat.zero_le _) (by rw [Nat.zero_add, hb.tot]; exact hp)
    refine ⟨_, rfl, p4, _, p, t, rfl, h4, hb.bs o, by rw [HB.ex]; exact ht, fun H5 p5 s5 np5 h5 => ?_⟩
    refine ⟨p5, _, _, _, rfl, rfl, SqT.h h5, atI_nat (j := 2) rfl, ?_⟩
    have e : t.2.2.1 = lev (lvs (gru E U)) p := by
      have := hq.lv
      rw [Nat.sub_zero, lev_get (by rw [hb.tot]; exact hp)] at this
      exact (Option.some.inj this).symm
    rw [e]
    exact k _ ((((s1.trans s2).trans s3).trans s4).trans s5)
/-! ### character_at -/
def sp_character_at : Sp := fun vs H Q _ => ∃ (h : Addr) (U : List Un) (E : Nat) (cs : List Ch) (p : Nat) (t : CT), vs = [.ref h, vN p] ∧ LT H h (enB (rn yes cs)) ∧ UB U ∧ HB U E cs ∧ p < tot U ∧ cAt 0 0 cs p = some t ∧ ∀ H' q, Same H H' → H q = none → H' q = some (.tup (rCT t)) → Q (.ref q) H'
abbrev n_character_at : List Str := ["history", "position", "blocks"]
theorem sc_character_at : FnScope n_character_at ["history", "position"] (defScope s_character_at) := ⟨rfl, rfl, rfl, by decide +kernel, rfl, by decide +kernel, by decide +kernel⟩
theorem ok_character_at (T : Txt K mg) : Cl P w K mg base CX0 "character_at" ["history", "position"] 7 [] sp_character_at := by
  obtain ⟨fd, F⟩ := T.def_ 39 (d := d_character_at) rfl
  have C_checked_blocks := ok_checked_blocks (P := P) (w := w) (base := base) T
  have C_check_position := ok_check_position (P := P) (w := w) (base := base) T
  have C_length_by := ok_length_by (P := P) (w := w) (base := base) T
  have C_character_by := ok_character_by (P := P) (w := w) (base := base) T
  refine cl_ok F (T.glo 36) (fun _ _ _ _ _ _ us hl => match us, hl with | [_, _], _ => rfl) sc_character_at (fun vs H Q E h => ?_) (fun cdv A outer s H vs Q E hr h => ?_)
  · obtain ⟨a, U, E, cs, p, t, rfl, _⟩ := h
    rfl
  · obtain ⟨hh, U, E, cs, p, t, rfl, hb, o, hc, hp, ht, k⟩ := h
    refine ⟨_, (pss_cons (ps_set (i := 2) sc_character_at.nd rfl (Or.inl rfl) (pe_cl C_checked_blocks (hr.mono (by decide)) (pa_cons (pv 0) pa_nil)))
      (pss_cons (ps_expr (pe_cl C_check_position (hr.mono (by decide)) (pa_cons (pv 1) (pa_cons (pe_op oSub (pe_cl C_length_by (hr.mono (by decide)) (pa_cons (pv 2) pa_nil)) pe_int) pa_nil))))
      (pss_one (ps_ret (pe_cl C_character_by (hr.mono (by decide)) (pa_cons (pv 2) (pa_cons (pv 1) pa_nil))))))), ?_⟩
    have hlen := hc.len o
    refine ⟨_, rfl, hh, _, rfl, hb, hc.bk o, by omega, fun H1 q s1 nq h1 => ?_⟩
    refine ⟨_, rfl, _, rfl, q, _, rfl, h1, hc.bs o, fun H2 s2 => ?_⟩
    rw [HB.ex, hc.tot]
    refine ⟨tot U, 1, rfl, rfl, by omega, p, tot U - 1, rfl, by omega, ?_⟩
    refine ⟨_, rfl, _, rfl, q, _, p, t, rfl, h1.same s2, hc.bs o, by rw [HB.ex]; exact ht, fun H3 q3 s3 nq3 h3 => ?_⟩
    exact k _ q3 ((s1.trans s2).trans s3) ((s1.trans s2).free nq3) h3
/-! ### checked_pair -/
def sp_checked_pair : Sp := fun vs H Q _ => ∃ (h h' : Addr) (U : List Un) (E : Nat) (cs ds : List Ch), vs = [.ref h, .ref h'] ∧ LT H h (enB (rn yes cs)) ∧ LT H h' (enB (rn yes ds)) ∧ UB U ∧ HB U E cs ∧ HB U E ds ∧ ∀ H' q p p', Same H H' → H' q = some (.tup [.ref p, .ref p']) → LT H' p (enB (rn yes cs)) → LT H' p' (enB (rn yes ds)) → Q (.ref q) H'
abbrev n_checked_pair : List Str := ["history", "other", "one", "two"]
theorem sc_checked_pair : FnScope n_checked_pair ["history", "other"] (defScope s_checked_pair) := ⟨rfl, rfl, rfl, by decide +kernel, rfl, by decide +kernel, by decide +kernel⟩
theorem ok_checked_pair (T : Txt K mg) : Cl P w K mg base CX0 "checked_pair" ["history", "other"] 7 [] sp_checked_pair := by
  obtain ⟨fd, F⟩ := T.def_ 40 (d := d_checked_pair) rfl
  have C_checked_blocks := ok_checked_blocks (P := P) (w := w) (base := base) T
  have C_pieces_of := ok_pieces_of (P := P) (w := w) (base := base) T
  refine cl_ok F (T.glo 37) (fun _ _ _ _ _ _ us hl => match us, hl with | [_, _], _ => rfl) sc_checked_pair (fun vs H Q E h => ?_) (fun cdv A outer s H vs Q E hr h => ?_)
  · obtain ⟨a, b, U, E, cs, ds, rfl, _⟩ := h
    rfl
  · obtain ⟨a, b, U, E, cs, ds, rfl, ha, hb, o, hc, hd, k⟩ := h
    refine ⟨_, (pss_cons (ps_par (i := 2) (j := 3) (by rfl) sc_checked_pair.nd rfl rfl (by decide) rfl rfl (pa_cons (pe_cl C_checked_blocks (hr.mono (by decide)) (pa_cons (pv 0) pa_nil)) (pa_cons (pe_cl C_checked_blocks (hr.mono (by decide)) (pa_cons (pv 1) pa_nil)) pa_nil)) (by rfl))
      (pss_cons (ps_if (pt_cmpR (op_neDK K hr.units) (pe_cl C_pieces_of (hr.mono (by decide)) (pa_cons (pv 2) pa_nil)) (pe_cl C_pieces_of (hr.mono (by decide)) (pa_cons (pv 3) pa_nil)) (nomark _))
        (pss_one ps_never)
        pss_nil)
      (pss_one (ps_ret (pe_tup (pa_cons (pv 2) (pa_cons (pv 3) pa_nil))))))), ?_⟩
    have l1 := hc.len o
    have l2 := hd.len o
    refine ⟨_, rfl, a, _, rfl, ha, hc.bk o, by omega, fun H1 p s1 np h1 => ?_⟩
    refine ⟨_, rfl, b, _, rfl, hb.same s1, hd.bk o, by omega, fun H2 p' s2 np' h2 => ?_⟩
    have h12 := h1.same s2
    refine ⟨_, _, rfl, ?_⟩
    refine ⟨_, rfl, p, _, rfl, h12, hc.bs o, fun H3 q1 s3 nq1 h3 => ?_⟩
    refine ⟨_, rfl, p', _, rfl, h2.same s3, hd.bs o, fun H4 q2 s4 nq2 h4 => ?_⟩
    rw [HB.ex, hc.hc.prs] at h3
    rw [HB.ex, hd.hc.prs] at h4
    have ns := enB_ns (bs := pcs U) o.pc.sym
    have ok : ∀ r ∈ enB (pcs U), r.all okV = true := fun r hr => ok_ns (ns r hr)
    refine ⟨_, _, (h3.same s4).dpo ok, h4.dpo ok, shaped_rows ok, shaped_rows ok, ?_⟩
    have e : PyData.eqv (pdR (enB (pcs U))) (pdR (enB (pcs U))) = true := (eqv_rows ns ns).trans (decide_eq_true rfl)
    refine ⟨false, by rw [e]; rfl, iteF ?_⟩
    refine ⟨_, rfl, _, rfl, z2, fun q nq => ?_⟩
    have s5 : Same H4 (upd H4 q (.tup [.ref p, .ref p'])) := Same.new nq
    have s35 := (s3.trans s4).trans s5
    exact k _ q p p' ((s1.trans s2).trans s35) upd_same (h12.same s35) (h2.same s35)
end
end Sl


end
section
set_option Elab.async false
set_option linter.all false
set_option maxRecDepth 100000
set_option maxHeartbeats 4000000
namespace Sl
open PySem PySem.Spec PyProof.Rows L2
section
variable {P : Program} {w : World} {K : PySem.W.Frag} {mg : Str → Option Value} {base : Heap}
/-! ### stretches_of -/
def sp_stretches_of : Sp := fun vs H Q _ => ∃ (h : Addr) (bs : List (Ch × Nat)), vs = [.ref h] ∧ LT H h (enB bs) ∧ BsOk bs ∧ ∀ H' p, Same H H' → H p = none → LT H' p (enN (stB bs)) → Q (.ref p) H'
abbrev n_stretches_of : List Str := ["blocks", "symbol", "level", "count"]
theorem sc_stretches_of : FnScope n_stretches_of ["blocks"] (defScope s_stretches_of) := ⟨rfl, rfl, rfl, by decide +kernel, rfl, by decide +kernel, by decide +kernel⟩
theorem ok_stretches_of (T : Txt K mg) : Cl P w K mg base CX0 "stretches_of" ["blocks"] 3 [] sp_stretches_of := by
  obtain ⟨fd, F⟩ := T.def_ 41 (d := d_stretches_of) rfl
  have C_width_of := ok_width_of (P := P) (w := w) (base := base) T
  refine cl_ok F (T.glo 38) (fun _ _ _ _ _ _ us hl => match us, hl with | [_], _ => rfl) sc_stretches_of (fun vs H Q E h => ?_) (fun cdv A outer s H vs Q E hr h => ?_)
  · obtain ⟨a, bs, rfl, _⟩ := h
    rfl
  · obtain ⟨hh, bs, rfl, h1, o, k⟩ := h
    refine ⟨_, (pss_one (ps_ret (pe_lc (own := [("symbol", 1), ("level", 2), ("count", 3)]) (g := (gTup K 3 (gCons (gName 1) (gCons (gName 2) (gCons (gName 3) gNil))))) (tt := tYes) rfl sc_stretches_of.nd (pi_list (pv 0)) (blkOk_by (N := n_stretches_of) (sc := defScope s_stretches_of) (by decide +kernel)) (fun _ _ _ _ _ => (pg_tup rfl (pgs_cons (pg_name (i := 1) sc_stretches_of.nd rfl (Or.inl rfl)) (pgs_cons (pg_name (i := 2) sc_stretches_of.nd rfl (Or.inl rfl)) (pgs_cons (pg_name (i := 3) sc_stretches_of.nd rfl (Or.inl rfl)) pgs_nil))))) (fun _ _ _ _ _ => pts_nil) (fun _ _ _ _ _ => (pe_tup (pa_cons (pe_op oMul (pv 3) (pe_cl C_width_of (hr.mono (by decide)) (pa_cons (pv 1) (pa_cons (pv 2) pa_nil)))) (pa_cons (pv 2) pa_nil))))))), ?_⟩
    have hlen := o.num
    obtain ⟨xs, hxs, hxl⟩ := h1.lst
    rw [enB_len] at hxl
    refine ⟨_, rfl, hh, rfl, ⟨_, SqL.h hxs⟩, fun D nD => lcL_rows (xs := xs) (fun i => (enN (stB bs))[i]?) (by omega) nD (SqL.h hxs) (fun i x H2 hx s2 Qc Qn t => ?_) fun H2 s2 hD => ?_⟩
    · obtain ⟨r, t0, e1, rfl, e3⟩ := (h1.same s2).row (s2 _ _ hxs) hx
      obtain ⟨⟨⟨z, lv⟩, c⟩, e4, rfl⟩ := enB_get e1
      obtain ⟨_, hlv, _, _, _, hc, hw⟩ := o.wid (List.mem_of_getElem? e4)
      have ef : (enN (stB bs))[i]? = some [vN (c * wd z lv), vN lv] := by
        unfold enN stB
        rw [List.map_map, List.getElem?_map, e4]; rfl
      unfold TurnR at t
      rw [ef] at t
      refine ⟨t0, _, rfl, SqT.h e3, rfl, _, _, rfl, _, _, rfl, _, _, rfl, rfl, rfl, ?_⟩
      exact ⟨_, rfl, _, rfl, _, rfl, z, lv, rfl, by omega, c, _, rfl, rfl, ⟨hc, hw⟩, _, rfl, z2, fun q nq => t _ _ (Same.new nq) ⟨q, rfl, upd_same⟩⟩
    · have hfl : (stB bs).length = bs.length := List.length_map ..
      rw [hxl, ← hfl, ← enN_len (stB bs), fm_some] at hD
      exact k H2 D s2 nD hD
/-! ### common_stretches -/
def enM (ms : Ms) : List (List V) := ms.map fun m => [vN m.1, vN m.2.1, vN m.2.2]
theorem enM_len (ms : Ms) : (enM ms).length = ms.length := List.length_map ..
theorem enM_app (a b : Ms) : enM (a ++ b) = enM a ++ enM b := List.map_append
def lenH (H : Hp) (a : Addr) : Nat := match H a with
  | some (.lst xs) => xs.length
  | _ => 0
theorem enN_ns (ss : Sts) : ∀ r ∈ enN ss, r.all nsV = true := fun r hr => by
  obtain ⟨x, _, rfl⟩ := List.mem_map.mp hr
  rfl
theorem LT.lenH {H : Hp} {a : Addr} {ss : Sts} (h : LT H a (enN ss)) : lenH H a = ss.length := by
  obtain ⟨xs, h1, h2⟩ := h.lst
  unfold Sl.lenH
  rw [h1, ← enN_len ss, ← h2]
theorem ix0 {n : Nat} (h : 0 < n) : ixN n 0 = some 0 := by
  unfold ixN
  rw [if_pos (by decide), if_pos (by omega)]; rfl
theorem minV (n m : Nat) : V.int (if (m : Int) < (n : Int) then (m : Int) else (n : Int)) = vN (min n m) := by
  by_cases h : m < n
  · rw [if_pos (by omega), Nat.min_eq_right (by omega)]
  · rw [if_neg (by omega), Nat.min_eq_left (by omega)]
theorem LT.head {H : Hp} {l : Addr} {r : List V} {rs : List (List V)} (h : LT H l (r :: rs)) : ∃ t xs, H l = some (.lst (.ref t :: xs)) ∧ H t = some (.tup r) ∧ Paired (RowV H) xs rs := by
  obtain ⟨xs, h1, h2⟩ := h
  cases h2 with
  | cons q p =>
    obtain ⟨t, rfl, ht⟩ := q
    exact ⟨t, _, h1, ht, p⟩
theorem ne_lt {H : Hp} {l t : Addr} {xs : List V} {r : List V} (h1 : H l = some (.lst xs)) (h2 : H t = some (.tup r)) : t ≠ l := by
  rintro rfl
  rw [h1] at h2; cases h2
/-- one turn: k positions are taken off the first stretch -/
def tRed (K : PySem.W.Frag) : TS := tSeq
  (tAsg (tTup (tCons (tOp (rN (fun n m => m ≤ n) fun n m => vN (n - m)) (tOp (rIxT K) (tOp (rIxL K) (tVar 6) (tC (V.int 0))) (tC (V.int 0))) (tVar 5)) (tCons (tOp (rIxT K) (tOp (rIxL K) (tVar 6) (tC (V.int 0))) (tC (V.int 1))) tNil))) (gSub (tVar 6) (tC (V.int 0)) rSetL))
  (tIfS (tTest (tOp (rN0 fun n m => V.bl (decide (n = m))) (tOp (rIxT K) (tOp (rIxL K) (tVar 6) (tC (V.int 0))) (tC (V.int 0))) (tC (V.int 0)))) (tDrop (tBM K "list" rPopAt (tVar 6) (tCons (tC (V.int 0)) tNil))) tNext)
theorem red_turn {D : Ends} {v0 v1 v2 v3 v4 : Option V} {H : Hp} {l : Addr} {n a m : Nat} {r : Sts} (hl : LT H l (enN ((n, a) :: r))) (hm : m ≤ n)
    (k : ∀ H', Mod l H H' → LT H' l (enN (red m ((n, a) :: r))) → D.nx [v0, v1, v2, v3, v4, some (vN m), some (.ref l)] H') : tRed K D [v0, v1, v2, v3, v4, some (vN m), some (.ref l)] H := by
  obtain ⟨t0, xs, h1, h2, h3⟩ := hl.head
  refine ⟨_, rfl, l, _, _, _, rfl, rfl, SqL.h h1, atI_nat (j := 0) rfl, t0, _, _, _, rfl, rfl, SqT.h h2, atI_nat (j := 0) rfl, _, rfl, n, m, rfl, rfl, hm, _, rfl, l, _, _, _, rfl, rfl, SqL.h h1, atI_nat (j := 0) rfl, t0, _, _, _, rfl, rfl, SqT.h h2, atI_nat (j := 1) rfl, z2, fun t nt => ?_⟩
  have s1 : Same H (upd H t (.tup [vN (n - m), vN a])) := Same.new nt
  have h1' := s1 _ _ h1
  refine ⟨_, rfl, l, _, _, 0, rfl, rfl, h1', ix0 (Nat.succ_pos _), ?_⟩
  have m1 : Mod l H (upd (upd H t (.tup [vN (n - m), vN a])) l (.lst (.ref t :: xs))) := (Mod.of_same s1).trans Mod.upd
  have hl2 : (upd (upd H t (.tup [vN (n - m), vN a])) l (.lst (.ref t :: xs))) l = some (.lst (.ref t :: xs)) := upd_same
  have ht2 : (upd (upd H t (.tup [vN (n - m), vN a])) l (.lst (.ref t :: xs))) t = some (.tup [vN (n - m), vN a]) := by
    rw [upd_ne (ne_lt h1' upd_same)]; exact upd_same
  have px : Paired (RowV (upd (upd H t (.tup [vN (n - m), vN a])) l (.lst (.ref t :: xs)))) xs (enN r) := L2.Paired.mapP h3 fun _ _ => RowV.mod m1 h1
  refine ⟨_, rfl, l, _, _, _, rfl, rfl, SqL.h hl2, atI_nat (j := 0) rfl, t, _, _, _, rfl, rfl, SqT.h ht2, atI_nat (j := 0) rfl, n - m, 0, rfl, rfl, _, rfl, ite2 (fun h0 => ?_) (fun h0 => ?_)⟩
  · have h0' : n - m = 0 := of_decide_eq_true h0
    refine ⟨_, rfl, .inl ⟨rfl, _, SqL.h hl2⟩, l, _, 0, 0, .ref t, rfl, rfl, hl2, by decide, by decide, ?_, rfl, ?_⟩
    · exact (ixN_seq (ix0 (n := (V.ref t :: xs).length) (Nat.succ_pos _))).1
    · refine k _ (m1.trans Mod.upd) ?_
      rw [red_cons, if_pos (show (n, a).1 - m = 0 from h0')]
      exact ⟨xs, upd_same, L2.Paired.mapP px fun _ _ => RowV.mod Mod.upd hl2⟩
  · have h0' : ¬ n - m = 0 := fun q => h0 (decide_eq_true q)
    refine k _ m1 ?_
    rw [red_cons, if_neg (show ¬ (n, a).1 - m = 0 from h0')]
    exact ⟨_, hl2, .cons ⟨t, rfl, ht2⟩ px⟩
theorem mono_ne {i : Nat} {σ : L2.St} {H : Hp} {Q Q' : Bool → Hp → Prop} (f : ∀ b H1, Q b H1 → Q' b H1) (h : tTest (tOp (rNeD K) (tVar i) (tLst tNil)) σ H Q) : tTest (tOp (rNeD K) (tVar i) (tLst tNil)) σ H Q' := by
  obtain ⟨v, e1, z, h⟩ := h
  refine ⟨v, e1, z, fun p np => ?_⟩
  obtain ⟨d, e, q1, q2, q3, q4, b, q5, q6⟩ := h p np
  exact ⟨d, e, q1, q2, q3, q4, b, q5, f _ _ q6⟩
def sp_common_stretches : Sp := fun vs H Q _ => ∃ (a b : Addr) (ss tt : Sts), vs = [.ref a, .ref b] ∧ LT H a (enN ss) ∧ LT H b (enN tt) ∧ PosS ss ∧ PosS tt ∧ (stx ss).length = (stx tt).length ∧ ss.length ≤ 10000 ∧ tt.length ≤ 10000 ∧ ∀ H' p ms, Same H H' → H p = none → msx ms = (stx ss).zip (stx tt) → (∀ m ∈ ms, 1 ≤ m.1) → ms.length ≤ 20000 → LT H' p (enM ms) → Q (.ref p) H'
abbrev n_common_stretches : List Str := ["one", "other", "found", "first", "second", "many", "stretches"]
theorem sc_common_stretches : FnScope n_common_stretches ["one", "other"] (defScope s_common_stretches) := ⟨rfl, rfl, rfl, by decide +kernel, rfl, by decide +kernel, by decide +kernel⟩
theorem ok_common_stretches (T : Txt K mg) : Cl P w K mg base CX0 "common_stretches" ["one", "other"] 1 [] sp_common_stretches := by
  obtain ⟨fd, F⟩ := T.def_ 42 (d := d_common_stretches) rfl
  refine cl_ok F (T.glo 39) (fun _ _ _ _ _ _ us hl => match us, hl with | [_, _], _ => rfl) sc_common_stretches (fun vs H Q E h => ?_) (fun cdv A outer s H vs Q E hr h => ?_)
  · obtain ⟨a, b, ss, tt, rfl, _⟩ := h
    rfl
  · obtain ⟨a, b, ss, tt, rfl, ha, hb, pa, pb, hl, za, zb, k⟩ := h
    refine ⟨_, (pss_cons (ps_set (i := 2) sc_common_stretches.nd rfl (Or.inl rfl) (pe_lst pa_nil))
      (pss_cons (ps_par (i := 3) (j := 4) (by rfl) sc_common_stretches.nd rfl rfl (by decide) rfl rfl (pa_cons (pe_callTy (call_list_ofK K) (by rfl) (T.free 88) bt_list (pa_cons (pv 0) pa_nil)) (pa_cons (pe_callTy (call_list_ofK K) (by rfl) (T.free 88) bt_list (pa_cons (pv 1) pa_nil)) pa_nil)) (by rfl))
      (pss_cons (ps_while PassesOwn.never (pt_cmpR (op_neDK K hr.units) (pv 3) (pe_lst pa_nil) (nomark _))
        (pss_cons (ps_set (i := 5) sc_common_stretches.nd rfl (Or.inl rfl) (pe_callB (call_min2 rfl) (by rfl) (T.free 95) bt_min (pa_cons (pe_ix (ix_tupK K) (pe_ix (ix_listK K) (pv 3) pe_int (fun _ _ => rfl)) pe_int (fun _ _ => rfl)) (pa_cons (pe_ix (ix_tupK K) (pe_ix (ix_listK K) (pv 4) pe_int (fun _ _ => rfl)) pe_int (fun _ _ => rfl)) pa_nil))))
        (pss_cons (ps_expr (pe_bm PySem.F.plainAttrs_list PySem.F.slot_list_append PySem.F.type_list_append mt_append (pv 2) (pa_cons (pe_tup (pa_cons (pv 5) (pa_cons (pe_ix (ix_tupK K) (pe_ix (ix_listK K) (pv 3) pe_int (fun _ _ => rfl)) pe_int (fun _ _ => rfl)) (pa_cons (pe_ix (ix_tupK K) (pe_ix (ix_listK K) (pv 4) pe_int (fun _ _ => rfl)) pe_int (fun _ _ => rfl)) pa_nil)))) pa_nil)))
        (pss_one (ps_for PassesOwn.never rfl (pi_tup (pe_tup (pa_cons (pv 3) (pa_cons (pv 4) pa_nil)))) (pg_name (i := 6) sc_common_stretches.nd rfl (Or.inl rfl))
          (pss_cons (ps_asg (pe_tup (pa_cons (pe_op oSub (pe_ix (ix_tupK K) (pe_ix (ix_listK K) (pv 6) pe_int (fun _ _ => rfl)) pe_int (fun _ _ => rfl)) (pv 5)) (pa_cons (pe_ix (ix_tupK K) (pe_ix (ix_listK K) (pv 6) pe_int (fun _ _ => rfl)) pe_int (fun _ _ => rfl)) pa_nil))) (pg_sub (pv 6) pe_int set_list))
          (pss_one (ps_if (pt_cmpR oEq (pe_ix (ix_tupK K) (pe_ix (ix_listK K) (pv 6) pe_int (fun _ _ => rfl)) pe_int (fun _ _ => rfl)) pe_int (nomark _))
            (pss_one (ps_expr (pe_bm PySem.F.plainAttrs_list PySem.F.slot_list_pop PySem.F.type_list_pop mt_popAt (pv 6) (pa_cons pe_int pa_nil))))
            pss_nil))))))))
      (pss_one (ps_ret (pv 2)))))), ?_⟩
    refine ⟨z0, fun c nc => ?_⟩
    have s1 : Same H (upd H c (.lst [])) := Same.new nc
    obtain ⟨xs, hxs, px⟩ := ha.same s1
    refine ⟨_, rfl, a, xs, rfl, .inl (SqL.h hxs), fun f nf => ?_⟩
    have s2 : Same (upd H c (.lst [])) (upd (upd H c (.lst [])) f (.lst xs)) := Same.new nf
    obtain ⟨ys, hys, py⟩ := (hb.same s1).same s2
    refine ⟨_, rfl, b, ys, rfl, .inl (SqL.h hys), fun g ng => ⟨_, _, rfl, ?_⟩⟩
    have s3 : Same (upd (upd H c (.lst [])) f (.lst xs)) (upd (upd (upd H c (.lst [])) f (.lst xs)) g (.lst ys)) := Same.new ng
    have s13 := (s1.trans s2).trans s3
    have nf0 : H f = none := s1.free nf
    have ng0 : H g = none := (s1.trans s2).free ng
    have fc : f ≠ c := by
      rintro rfl
      rw [upd_same] at nf; cases nf
    have gc : g ≠ c := by
      rintro rfl
      rw [s2 _ _ upd_same] at ng; cases ng
    have gf : g ≠ f := by
      rintro rfl
      rw [upd_same] at ng; cases ng
    refine while_by (fun σ H' => Same H H' ∧ ∃ (ss' tt' : Sts) (ms : Ms) (v5 v6 : Option V), σ = [some (.ref a), some (.ref b), some (.ref c), some (.ref f), some (.ref g), v5, v6] ∧ LT H' c (enM ms) ∧ LT H' f (enN ss') ∧ LT H' g (enN tt') ∧ PosS ss' ∧ PosS tt' ∧ (stx ss').length = (stx tt').length ∧ msx ms ++ (stx ss').zip (stx tt') = (stx ss).zip (stx tt) ∧ (∀ m ∈ ms, 1 ≤ m.1) ∧ ms.length + ss'.length + tt'.length ≤ 20000)
      (fun σ H' => lenH H' f + lenH H' g) ⟨s13, ss, tt, [], none, none, rfl, (LT.nil upd_same).same (s2.trans s3), ⟨xs, s3 _ _ upd_same, L2.Paired.mapP px fun _ _ => RowV.same (s2.trans s3)⟩, ⟨ys, upd_same, L2.Paired.mapP py fun _ _ => RowV.same s3⟩, pa, pb, hl, rfl, fun _ h => (nomatch h), by show 0 + ss.length + tt.length ≤ 20000; omega⟩ ?_ (fun σ H' Q Q' h => mono_ne h)
    rintro σ H' ⟨sH, ss', tt', ms, v5, v6, rfl, hc, hf, hg, ps, pt, hlen, hz, hm1, hn⟩
    refine ⟨_, rfl, z0, fun p np => ?_⟩
    have s4 : Same H' (upd H' p (.lst [])) := Same.new np
    have ok : ∀ r ∈ enN ss', r.all okV = true := fun r hr => ok_ns (enN_ns _ r hr)
    refine ⟨_, _, (hf.same s4).dpo ok, (LT.nil upd_same).dpo (fun r hr => nomatch hr), shaped_rows ok, shaped_rows (fun r hr => nomatch hr), !(enN ss').isEmpty, congrArg (fun b => V.bl (!b)) eqv_E, ?_⟩
    cases ss' with
    | nil =>
      refine iteF ?_
      refine ⟨_, rfl, k _ c ms (sH.trans s4) nc ?_ hm1 (by omega) (hc.same s4)⟩
      rw [← hz]
      exact (List.append_nil _).symm
    | cons x r =>
      obtain ⟨n, x2⟩ := x
      have hn1 : 1 ≤ n := ps (n, x2) List.mem_cons_self
      obtain ⟨⟨m, y2⟩, r', rfl⟩ := stx_len_pos pt (n := 1) (by decide) (by
        rw [← hlen, stx_cons, List.length_append, List.length_replicate]
        show 1 ≤ n + _
        omega)
      have hm2 : 1 ≤ m := pt (m, y2) List.mem_cons_self
      have hf4 := hf.same s4
      have hg4 := hg.same s4
      have hc4 := hc.same s4
      obtain ⟨t1, xs1, f1, f2, f3⟩ := hf4.head
      obtain ⟨t2, xs2, g1, g2, g3⟩ := hg4.head
      obtain ⟨cs, hcs, hcl⟩ := hc4.lst
      rw [enM_len] at hcl
      refine iteT ?_
      refine ⟨_, rfl, f, _, _, _, rfl, rfl, SqL.h f1, atI_nat (j := 0) rfl, t1, _, _, _, rfl, rfl, SqT.h f2, atI_nat (j := 0) rfl, _, rfl, g, _, _, _, rfl, rfl, SqL.h g1, atI_nat (j := 0) rfl, t2, _, _, _, rfl, rfl, SqT.h g2, atI_nat (j := 0) rfl, (n : Int), (m : Int), rfl, ?_⟩
      rw [minV]
      refine ⟨_, rfl, .inl ⟨rfl, _, SqL.h hcs⟩, _, rfl, _, rfl, f, _, _, _, rfl, rfl, SqL.h f1, atI_nat (j := 0) rfl, t1, _, _, _, rfl, rfl, SqT.h f2, atI_nat (j := 1) rfl, _, rfl, g, _, _, _, rfl, rfl, SqL.h g1, atI_nat (j := 0) rfl, t2, _, _, _, rfl, rfl, SqT.h g2, atI_nat (j := 1) rfl, z3, fun t nt => ?_⟩
      have s5 : Same (upd H' p (.lst [])) (upd (upd H' p (.lst [])) t (.tup [vN (min n m), vN x2, vN y2])) := Same.new nt
      have hcs5 := s5 _ _ hcs
      refine ⟨c, cs, _, rfl, rfl, hcs5, by rw [hcl]; exact slt (by omega), ?_⟩
      have hc6 := (hc4.same s5).push (p := t) hcs5 upd_same
      have mc : Mod c (upd (upd H' p (.lst [])) t (.tup [vN (min n m), vN x2, vN y2])) (upd (upd (upd H' p (.lst [])) t (.tup [vN (min n m), vN x2, vN y2])) c (.lst (cs ++ [.ref t]))) := Mod.upd
      have hf6 := (hf4.same s5).mod fc hcs5 mc
      have hg6 := (hg4.same s5).mod gc hcs5 mc
      have s6 := Same.mut ((sH.trans s4).trans s5) nc (o := .lst (cs ++ [.ref t]))
      generalize upd (upd (upd H' p (.lst [])) t (.tup [vN (min n m), vN x2, vN y2])) c (.lst (cs ++ [.ref t])) = H6 at hc6 hf6 hg6 s6 ⊢
      have eA : ms ++ [(min n m, x2, y2)] = ms ++ [(min n m, x2, y2)] := rfl
      have hc6' : LT H6 c (enM (ms ++ [(min n m, x2, y2)])) := by rw [enM_app]; exact hc6
      have hlenH : lenH H' f + lenH H' g = (r.length + 1) + (r'.length + 1) := by rw [hf.lenH, hg.lenH]; rfl
      refine ⟨_, rfl, _, rfl, z2, fun q nq => ⟨q, rfl, ⟨_, SqT.h upd_same⟩, for_tup (K := K) (a := q) (xs := [.ref f, .ref g]) (fun i σ H2 => Same H H2 ∧ H2 q = some (.tup [.ref f, .ref g]) ∧ (∃ v6, σ = [some (.ref a), some (.ref b), some (.ref c), some (.ref f), some (.ref g), some (vN (min n m)), v6]) ∧ LT H2 c (enM (ms ++ [(min n m, x2, y2)])) ∧ LT H2 f (enN (if 1 ≤ i then red (min n m) ((n, x2) :: r) else (n, x2) :: r)) ∧ LT H2 g (enN (if 2 ≤ i then red (min n m) ((m, y2) :: r') else (m, y2) :: r')))
        ⟨s6.trans (Same.new nq), upd_same, ⟨v6, rfl⟩, hc6'.same (Same.new nq), hf6.same (Same.new nq), hg6.same (Same.new nq)⟩ (fun i σ H2 _ h => SqT.h h.2.1) ?_ ?_⟩⟩
      · rintro i x σ H2 hx ⟨sH2, hq2, ⟨v6', rfl⟩, hc2, hf2, hg2⟩
        obtain ⟨fs, hfs, _⟩ := hf2.lst
        obtain ⟨gs, hgs, _⟩ := hg2.lst
        match i, hx with
        | 0, hx =>
          have : x = .ref f := (Option.some.inj hx).symm
          subst this
          have hf3 : LT H2 f (enN ((n, x2) :: r)) := hf2
          refine red_turn (K := K) hf3 (Nat.min_le_left _ _) fun H3 m3 h3 => ?_
          exact ⟨m3.same sH2 nf0, m3 _ _ (ne_lt hfs hq2) hq2, ⟨_, rfl⟩, hc2.mod (Ne.symm fc) hfs m3, h3, hg2.mod gf hfs m3⟩
        | 1, hx =>
          have : x = .ref g := (Option.some.inj hx).symm
          subst this
          have hg3 : LT H2 g (enN ((m, y2) :: r')) := hg2
          refine red_turn (K := K) hg3 (Nat.min_le_right _ _) fun H3 m3 h3 => ?_
          exact ⟨m3.same sH2 ng0, m3 _ _ (ne_lt hgs hq2) hq2, ⟨_, rfl⟩, hc2.mod (Ne.symm gc) hgs m3, hf2.mod (Ne.symm gf) hgs m3, h3⟩
        | i + 2, hx => cases hx
      · rintro σ H2 ⟨sH2, hq2, ⟨v6', rfl⟩, hc2, hf2, hg2⟩
        have hf3 : LT H2 f (enN (red (min n m) ((n, x2) :: r))) := hf2
        have hg3 : LT H2 g (enN (red (min n m) ((m, y2) :: r'))) := hg2
        have e1 := red_stx (k := min n m) (a := x2) (r := r) (Nat.min_le_left n m)
        have e2 := red_stx (k := min n m) (a := y2) (r := r') (Nat.min_le_right n m)
        have dec : (red (min n m) ((n, x2) :: r)).length + (red (min n m) ((m, y2) :: r')).length < (r.length + 1) + (r'.length + 1) := by
          have l1 : (red (min n m) ((n, x2) :: r)).length ≤ r.length + 1 := red_len
          have l2 : (red (min n m) ((m, y2) :: r')).length ≤ r'.length + 1 := red_len
          rcases Nat.le_total n m with q | q
          · have := red_len0 (a := x2) (r := r) (show n - min n m = 0 by omega)
            omega
          · have := red_len0 (a := y2) (r := r') (show m - min n m = 0 by omega)
            omega
        refine ⟨⟨sH2, _, _, _, _, _, rfl, hc2, hf3, hg3, red_pos ps, red_pos pt, ?_, ?_, ?_, ?_⟩, ?_⟩
        · rw [e1, e2]
          rw [stx_cons, stx_cons] at hlen
          simp only [List.length_append, List.length_replicate] at hlen ⊢
          have : n + (stx r).length = m + (stx r').length := hlen
          omega
        · rw [e1, e2, msx_snoc, List.append_assoc, ← zip_split (Nat.min_le_left n m) (Nat.min_le_right n m)]
          exact hz
        · intro w hw
          rcases List.mem_append.mp hw with q | q
          · exact hm1 w q
          · rw [List.mem_singleton.mp q]
            show 1 ≤ min n m
            omega
        · have hn' : ms.length + (r.length + 1) + (r'.length + 1) ≤ 20000 := hn
          rw [List.length_append]
          show ms.length + 1 + _ + _ ≤ 20000
          omega
        · rw [hlenH, hf3.lenH, hg3.lenH]
          exact dec
end
end Sl


end
section
set_option Elab.async false
set_option linter.all false
set_option maxRecDepth 100000
set_option maxHeartbeats 4000000
namespace Sl
open PySem PySem.Spec PyProof.Rows L2
/-- runs of (level, positions), as the program keeps them -/
def enL (rs : List (Nat × Nat)) : List (List V) := rs.map fun x => [vN x.2, vN x.1]
theorem enL_len (rs : List (Nat × Nat)) : (enL rs).length = rs.length := List.length_map ..
theorem enL_app (a b : List (Nat × Nat)) : enL (a ++ b) = enL a ++ enL b := List.map_append
theorem enL_ns (ss : List (Nat × Nat)) : ∀ r ∈ enL ss, r.all nsV = true := fun r hr => by
  obtain ⟨x, _, rfl⟩ := List.mem_map.mp hr
  rfl
theorem enL_get {rs : List (Nat × Nat)} {i : Nat} {r : List V} (h : (enL rs)[i]? = some r) : ∃ x, rs[i]? = some x ∧ r = [vN x.2, vN x.1] := by
  unfold enL at h
  rw [List.getElem?_map] at h
  cases e : rs[i]? with
  | none => rw [e] at h; cases h
  | some x => rw [e] at h; exact ⟨x, rfl, (Option.some.inj h).symm⟩
theorem enL_swap (rs : List (Nat × Nat)) : enL rs = enN (rs.map fun x => (x.2, x.1)) := by
  unfold enL enN
  rw [List.map_map]; rfl
section
variable {P : Program} {w : World} {K : PySem.W.Frag} {mg : Str → Option Value} {base : Heap}
/-! ### take -/
theorem Mod.mut {a l : Addr} {H H' : Hp} {o : HO} (m : Mod a H H') (h : H l = none) : Mod a H (L2.upd H' l o) := fun b u hb e => by
  rw [upd_ne (by rintro rfl; rw [h] at e; cases e)]
  exact m b u hb e
def tPop (K : PySem.W.Frag) : TS := tIfS (tTest (tOp (rN0 fun n m => V.bl (decide (n = m))) (tVar 6) (tVar 4))) (tDrop (tBM K "list" rPopAt (tVar 0) (tCons (tC (V.int 0)) tNil))) tNext
theorem pop_turn {D : Ends} {v1 v2 v3 v5 : Option V} {H : Hp} {l t0 : Addr} {n a m : Nat} {r : Sts} {xs : List V} (hm : m ≤ n) (hl : H l = some (.lst (.ref t0 :: xs))) (ht : H t0 = some (.tup [vN (n - m), vN a])) (px : Paired (RowV H) xs (enN r))
    (k : ∀ H', Mod l H H' → LT H' l (enN (red m ((n, a) :: r))) → D.nx [some (.ref l), v1, v2, v3, some (vN n), v5, some (vN m)] H') : tPop K D [some (.ref l), v1, v2, v3, some (vN n), v5, some (vN m)] H := by
  refine ⟨_, rfl, _, rfl, m, n, rfl, rfl, _, rfl, ite2 (fun h0 => ?_) (fun h0 => ?_)⟩
  · have h0' : n - m = 0 := by have : m = n := of_decide_eq_true h0; omega
    refine ⟨_, rfl, .inl ⟨rfl, _, SqL.h hl⟩, l, _, 0, 0, .ref t0, rfl, rfl, hl, by decide, by decide, ?_, rfl, ?_⟩
    · exact (ixN_seq (ix0 (n := (V.ref t0 :: xs).length) (Nat.succ_pos _))).1
    · refine k _ Mod.upd ?_
      rw [red_cons, if_pos (show (n, a).1 - m = 0 from h0')]
      exact ⟨xs, upd_same, L2.Paired.mapP px fun _ _ => RowV.mod Mod.upd hl⟩
  · have h0' : ¬ n - m = 0 := fun q => h0 (decide_eq_true (by omega))
    refine k _ Mod.refl ?_
    rw [red_cons, if_neg (show ¬ (n, a).1 - m = 0 from h0')]
    exact ⟨_, hl, .cons ⟨t0, rfl, ht⟩ px⟩
def muL (σ : L2.St) : Nat := match σ with
  | [_, _, _, some (.int l), _, _, _] => l.toNat
  | _ => 0
def sp_take : Sp := fun vs H Q _ => ∃ (a : Addr) (k : Nat) (ss : Sts), vs = [.ref a, vN k] ∧ LT H a (enN ss) ∧ PosS ss ∧ k ≤ (stx ss).length ∧ ss.length ≤ 100000 ∧ ∀ H' p ss', Mod a H H' → H p = none → LT H' p (enL (rl ((stx ss).take k))) → LT H' a (enN ss') → PosS ss' → stx ss' = (stx ss).drop k → ss'.length ≤ ss.length → Q (.ref p) H'
abbrev n_take : List Str := ["stretches", "many", "found", "left", "positions", "level", "taken"]
theorem sc_take : FnScope n_take ["stretches", "many"] (defScope s_take) := ⟨rfl, rfl, rfl, by decide +kernel, rfl, by decide +kernel, by decide +kernel⟩
theorem ok_take (T : Txt K mg) : Cl P w K mg base CX0 "take" ["stretches", "many"] 1 [] sp_take := by
  obtain ⟨fd, F⟩ := T.def_ 43 (d := d_take) rfl
  refine cl_ok F (T.glo 40) (fun _ _ _ _ _ _ us hl => match us, hl with | [_, _], _ => rfl) sc_take (fun vs H Q E h => ?_) (fun cdv A outer s H vs Q E hr h => ?_)
  · obtain ⟨a, m, ss, rfl, _⟩ := h
    rfl
  · obtain ⟨a, m, ss, rfl, ha, ps, hm, hz, k⟩ := h
    refine ⟨_, (pss_cons (ps_set (i := 2) sc_take.nd rfl (Or.inl rfl) (pe_lst pa_nil))
      (pss_cons (ps_set (i := 3) sc_take.nd rfl (Or.inl rfl) (pv 1))
      (pss_cons (ps_while PassesOwn.never (pt_cmpR oGt (pv 3) pe_int (nomark _))
        (pss_cons (ps_asg (pe_ix (ix_listK K) (pv 0) pe_int (fun _ _ => rfl)) (pg_tup rfl (pgs_cons (pg_name (i := 4) sc_take.nd rfl (Or.inl rfl)) (pgs_cons (pg_name (i := 5) sc_take.nd rfl (Or.inl rfl)) pgs_nil))))
        (pss_cons (ps_set (i := 6) sc_take.nd rfl (Or.inl rfl) (pe_callB (call_min2 rfl) (by rfl) (T.free 95) bt_min (pa_cons (pv 4) (pa_cons (pv 3) pa_nil))))
        (pss_cons (ps_asg (pe_tup (pa_cons (pe_op oSub (pv 4) (pv 6)) (pa_cons (pv 5) pa_nil))) (pg_sub (pv 0) pe_int set_list))
        (pss_cons (ps_if (pt_cmpR oEq (pv 6) (pv 4) (nomark _))
          (pss_one (ps_expr (pe_bm PySem.F.plainAttrs_list PySem.F.slot_list_pop PySem.F.type_list_pop mt_popAt (pv 0) (pa_cons pe_int pa_nil))))
          pss_nil)
        (pss_cons (ps_aug (i := 3) sc_take.nd rfl (Or.inl rfl) (pv 6) iSub)
        (pss_one (ps_if (PW.pt (pw_and (pt_cmpR (op_neDK K hr.units) (pv 2) (pe_lst pa_nil) (nomark _)) (pw_and1 (pt_cmpR oEq (pe_ix (ix_tupK K) (pe_ix (ix_listK K) (pv 2) (pe_un un_neg pe_int) (fun _ _ => rfl)) pe_int (fun _ _ => rfl)) (pv 5) (nomark _)))))
          (pss_one (ps_asg (pe_tup (pa_cons (pe_op oAdd (pe_ix (ix_tupK K) (pe_ix (ix_listK K) (pv 2) (pe_un un_neg pe_int) (fun _ _ => rfl)) pe_int (fun _ _ => rfl)) (pv 6)) (pa_cons (pv 5) pa_nil))) (pg_sub (pv 2) (pe_un un_neg pe_int) set_list)))
          (pss_one (ps_expr (pe_bm PySem.F.plainAttrs_list PySem.F.slot_list_append PySem.F.type_list_append mt_append (pv 2) (pa_cons (pe_tup (pa_cons (pv 6) (pa_cons (pv 5) pa_nil))) pa_nil))))))))))))
      (pss_one (ps_ret (pv 2)))))), ?_⟩
    refine ⟨z0, fun l nl => ?_⟩
    have s1 : Same H (upd H l (.lst [])) := Same.new nl
    obtain ⟨xs0, hxs0, _⟩ := ha.lst
    have al : a ≠ l := by
      rintro rfl
      rw [nl] at hxs0; cases hxs0
    refine ⟨_, rfl, ?_⟩
    refine while_by (fun σ H' => Mod a H H' ∧ ∃ (ss' : Sts) (left : Nat) (v4 v5 v6 : Option V), σ = [some (.ref a), some (vN m), some (.ref l), some (vN left), v4, v5, v6] ∧ left ≤ m ∧ LT H' a (enN ss') ∧ PosS ss' ∧ stx ss' = (stx ss).drop (m - left) ∧ ss'.length ≤ ss.length ∧ LT H' l (enL (rl ((stx ss).take (m - left)))))
      (fun σ _ => muL σ) ⟨Mod.of_same s1, ss, m, none, none, none, rfl, Nat.le_refl _, ha.same s1, ps, by rw [Nat.sub_self]; rfl, Nat.le_refl _, by rw [Nat.sub_self]; exact LT.nil upd_same⟩ ?_ (fun σ H' Q Q' f h => by
        obtain ⟨v, e1, n1, n2, e2, e3, b, e4, q⟩ := h
        exact ⟨v, e1, n1, n2, e2, e3, b, e4, f _ _ q⟩)
    rintro σ H' ⟨mH, ss', left, v4, v5, v6, rfl, hlm, hs, ps', hss, hsl, hl⟩
    refine ⟨_, rfl, left, 0, rfl, rfl, _, rfl, ite2 (fun h0 => ?_) (fun h0 => ?_)⟩
    · have h0' : 0 < left := of_decide_eq_true h0
      have slen : (stx ss').length = (stx ss).length - (m - left) := by rw [hss, List.length_drop]
      obtain ⟨⟨n, lv⟩, r, rfl⟩ := stx_len_pos ps' h0' (by omega)
      have hn1 : 1 ≤ n := ps' (n, lv) List.mem_cons_self
      obtain ⟨t0, xs, h1, h2, h3⟩ := hs.head
      have tn : min n left ≤ n := Nat.min_le_left _ _
      have tl : min n left ≤ left := Nat.min_le_right _ _
      have t1 : 1 ≤ min n left := by omega
      refine ⟨_, rfl, a, _, _, _, rfl, rfl, SqL.h h1, atI_nat (j := 0) rfl, t0, _, rfl, SqT.h h2, rfl, _, _, rfl, _, _, rfl, rfl, ?_⟩
      refine ⟨_, rfl, _, rfl, (n : Int), (left : Int), rfl, ?_⟩
      rw [minV]
      generalize min n left = t at tn tl t1
      refine ⟨_, rfl, _, rfl, n, t, rfl, rfl, tn, _, rfl, z2, fun p np => ?_⟩
      have s2 : Same H' (upd H' p (.tup [vN (n - t), vN lv])) := Same.new np
      have h1' := s2 _ _ h1
      refine ⟨_, rfl, a, _, _, 0, rfl, rfl, h1', ix0 (Nat.succ_pos _), ?_⟩
      have m1 : Mod a H' (upd (upd H' p (.tup [vN (n - t), vN lv])) a (.lst (.ref p :: xs))) := (Mod.of_same s2).trans Mod.upd
      have hl2 : (upd (upd H' p (.tup [vN (n - t), vN lv])) a (.lst (.ref p :: xs))) a = some (.lst (.ref p :: xs)) := upd_same
      have ht2 : (upd (upd H' p (.tup [vN (n - t), vN lv])) a (.lst (.ref p :: xs))) p = some (.tup [vN (n - t), vN lv]) := by
        rw [upd_ne (ne_lt h1' upd_same)]; exact upd_same
      have px : Paired (RowV (upd (upd H' p (.tup [vN (n - t), vN lv])) a (.lst (.ref p :: xs)))) xs (enN r) := L2.Paired.mapP h3 fun _ _ => RowV.mod m1 h1
      have hl0 := hl.mod (Ne.symm al) h1 m1
      refine pop_turn (K := K) tn hl2 ht2 px fun H3 m3 hs3 => ?_
      have hl3 := hl0.mod (Ne.symm al) hl2 m3
      have mH3 := (mH.trans m1).trans m3
      refine ⟨_, rfl, _, rfl, left, t, rfl, rfl, tl, ?_⟩
      -- the end of the turn
      have fin : ∀ H4, Mod a H H4 → LT H4 a (enN (red t ((n, lv) :: r))) → LT H4 l (enL (addR yes (rl ((stx ss).take (m - left))) lv t)) → (Mod a H H4 ∧ ∃ (ss' : Sts) (left' : Nat) (v4 v5 v6 : Option V), [some (V.ref a), some (vN m), some (.ref l), some (vN (left - t)), some (vN n), some (vN lv), some (vN t)] = [some (.ref a), some (vN m), some (.ref l), some (vN left'), v4, v5, v6] ∧ left' ≤ m ∧ LT H4 a (enN ss') ∧ PosS ss' ∧ stx ss' = (stx ss).drop (m - left') ∧ ss'.length ≤ ss.length ∧ LT H4 l (enL (rl ((stx ss).take (m - left'))))) ∧ left - t < left := fun H4 m4 g1 g2 => by
        have em : m - (left - t) = (m - left) + t := by omega
        refine ⟨⟨m4, _, left - t, _, _, _, rfl, by omega, g1, red_pos ps', ?_, ?_, ?_⟩, by omega⟩
        · rw [red_stx tn, em, ← List.drop_drop, ← hss, stx_cons]
          have := drop_rep (lv := lv) (A := stx r) tn (Nat.le_refl t)
          rw [Nat.sub_self, List.drop_zero] at this
          exact this.symm
        · exact Nat.le_trans red_len hsl
        · rw [em, List.take_add, ← hss, stx_cons]
          have := take_rep (lv := lv) (A := stx r) tn (Nat.le_refl t)
          rw [Nat.sub_self, List.take_zero, List.append_nil] at this
          rw [this]
          unfold rl at g2 ⊢
          rw [rn_rep _ _ rfl]
          exact g2
      have rlen := rl_take ss (m - left)
      generalize rl ((stx ss).take (m - left)) = rs at hl3 fin rlen
      refine ⟨_, rfl, z0, fun p2 np2 => ?_⟩
      have s5 : Same H3 (upd H3 p2 (.lst [])) := Same.new np2
      have hl4 := hl3.same s5
      have hs4 := hs3.same s5
      have mH4 := mH3.trans (Mod.of_same s5)
      have ok1 : ∀ r ∈ enL rs, r.all okV = true := fun r hr => ok_ns (enL_ns rs r hr)
      refine ⟨_, _, hl4.dpo ok1, (LT.nil upd_same).dpo (fun r hr => nomatch hr), shaped_rows ok1, shaped_rows (fun r hr => nomatch hr), ?_⟩
      have c0 : t ≠ 0 := by omega
      rcases nil_or_snoc rs with e | ⟨L, ⟨j, d⟩, e⟩
      · subst e
        refine ⟨false, rfl, iteF (iteF ?_)⟩
        obtain ⟨ys, hys, hyl⟩ := hl4.lst
        refine ⟨_, rfl, .inl ⟨rfl, _, SqL.h hys⟩, _, rfl, _, rfl, z2, fun u nu => ?_⟩
        have s6 : Same (upd H3 p2 (.lst [])) (upd (upd H3 p2 (.lst [])) u (.tup [vN t, vN lv])) := Same.new nu
        refine ⟨l, ys, _, rfl, rfl, s6 _ _ hys, by rw [hyl]; exact slt (by simp [enL]), ?_⟩
        refine fin _ (Mod.mut (mH4.trans (Mod.of_same s6)) nl) ((hs4.same s6).mod al (s6 _ _ hys) Mod.upd) ?_
        rw [addR_nil lv c0]
        exact (hl4.same s6).push (s6 _ _ hys) upd_same
      · subst e
        refine ⟨true, congrArg V.bl (by rw [show PyData.eqv (pdR (enL (L ++ [(j, d)]))) (pdR []) = (enL (L ++ [(j, d)])).isEmpty from eqv_E, enL_app]; cases enL L <;> rfl), iteT ?_⟩
        rw [enL_app] at hl4
        obtain ⟨ys, t2, e1, e2, e3⟩ := hl4.last
        rw [enL_len] at e3
        refine ⟨_, rfl, 1, rfl, l, _, _, _, rfl, rfl, SqL.h e1, atI_last _ _, t2, _, _, _, rfl, rfl, SqT.h e2, atI_nat (j := 1) rfl, ?_⟩
        refine ⟨_, rfl, j, lv, rfl, rfl, _, rfl, ite2 (fun hj => ?_) (fun hj => ?_)⟩
        · have jz : j = lv := of_decide_eq_true hj
          subst jz
          refine ⟨_, rfl, 1, rfl, l, _, _, _, rfl, rfl, SqL.h e1, atI_last _ _, t2, _, _, _, rfl, rfl, SqT.h e2, atI_nat (j := 0) rfl, _, rfl, d, t, rfl, rfl, _, rfl, z2, fun u nu => ?_⟩
          have s6 : Same (upd H3 p2 (.lst [])) (upd (upd H3 p2 (.lst [])) u (.tup [vN (d + t), vN j])) := Same.new nu
          have e1' := s6 _ _ e1
          refine ⟨_, rfl, 1, rfl, l, _, _, ys.length, rfl, rfl, e1', (by rw [List.length_append]; exact ixN_last), ?_⟩
          refine fin _ (Mod.mut (mH4.trans (Mod.of_same s6)) nl) ((hs4.same s6).mod al e1' Mod.upd) ?_
          rw [addR_same L rfl, enL_app]
          have q := (hl4.same s6).put (i := ys.length) e1' (r := [vN (d + t), vN j]) (p := u) upd_same
          have e4 : (enL L ++ enL [(j, d)]).set ys.length [vN (d + t), vN j] = enL L ++ enL [(j, d + t)] := by
            have e5 := set_last (enL L) [vN d, vN j] [vN (d + t), vN j]
            rw [enL_len, ← e3] at e5
            exact e5
          rw [e4] at q
          exact q
        · have jz : ¬ j = lv := fun q => hj (decide_eq_true q)
          refine ⟨_, rfl, .inl ⟨rfl, _, SqL.h e1⟩, _, rfl, _, rfl, z2, fun u nu => ?_⟩
          have s6 : Same (upd H3 p2 (.lst [])) (upd (upd H3 p2 (.lst [])) u (.tup [vN t, vN lv])) := Same.new nu
          have e1' := s6 _ _ e1
          refine ⟨l, _, _, rfl, rfl, e1', by rw [List.length_append, e3]; exact slt (by simp only [List.length_append, List.length_singleton] at rlen; show L.length + 1 ≤ 1000000; omega), ?_⟩
          refine fin _ (Mod.mut (mH4.trans (Mod.of_same s6)) nl) ((hs4.same s6).mod al e1' Mod.upd) ?_
          rw [addR_other L c0 (fun q => jz q.1), enL_app, enL_app]
          exact (hl4.same s6).push e1' upd_same
    · have h0' : left = 0 := Nat.le_zero.mp (Nat.le_of_not_lt fun q => h0 (decide_eq_true q))
      subst h0'
      refine ⟨_, rfl, k H' l ss' mH nl hl hs ps' hss hsl⟩
end
end Sl


end
section
set_option Elab.async false
set_option linter.all false
set_option maxRecDepth 100000
set_option maxHeartbeats 4000000
namespace Sl
open PySem PySem.Spec PyProof.Rows L2
theorem tot_repz (z : Sy) (s : Nat) : ∀ m, tot (List.replicate m (z, s)) = m * s
  | 0 => by rw [Nat.zero_mul]; rfl
  | m + 1 => by
    rw [List.replicate_succ]
    show s + tot (List.replicate m (z, s)) = _
    rw [tot_repz z s m, Nat.succ_mul, Nat.add_comm]
theorem prt_len {c : List Nat} (hd : Dn c) (hl : ∀ x ∈ c, x ≤ 200) : (prt c).length ≤ 201 := by
  unfold prt
  rw [List.length_map]
  refine desc_len (rl_desc (rn_wr c) (by rw [show exR (rl c) = c from exR_rn c]; exact hd)) fun x hx => ?_
  have := hl x.1 (mem_rn hx)
  omega
theorem or_tt {c1 c2 : Bool} {tb : TT} {σ : L2.St} {H : Hp} {Q : Bool → Hp → Prop} (h : Q (c1 || c2) H) (hb : c1 = false → (∀ b, b = c2 → Q b H) → tb σ H Q) : (if c1 = true then Q true H else tb σ H Q) := by
  cases c1 with
  | true => exact h
  | false => exact hb rfl fun b e => e ▸ h
theorem rl_lvl {c : List Nat} {x : Nat × Nat} (h : x ∈ rl c) : x.1 ∈ c := mem_rn h
section
variable {P : Program} {w : World} {K : PySem.W.Frag} {mg : Str → Option Value} {base : Heap}
/-! ### blocks_with -/
structure StOk (U : List Un) (ls : List Nat) : Prop where
  fit : Fit U ls
  dn : Dn ls
  le : ∀ x ∈ ls, x ≤ 200
def sp_blocks_with : Sp := fun vs H Q _ => ∃ (a b : Addr) (Ps : List Pc) (ss : Sts), vs = [.ref a, .ref b] ∧ LT H a (enB Ps) ∧ LT H b (enN ss) ∧ PcOk Ps ∧ PosS ss ∧ StOk (exR Ps) (stx ss) ∧ ss.length ≤ 100000 ∧ (rn yes (bwu (exR Ps) (stx ss))).length ≤ 50000 ∧ ∀ H' p, Same H H' → H p = none → LT H' p (enB (rn yes (bwu (exR Ps) (stx ss)))) → Q (.ref p) H'
abbrev n_blocks_with : List Str := ["pieces", "stretches", "blocks", "left", "symbol", "size", "many", "positions", "level", "step", "parts"]
theorem sc_blocks_with : FnScope n_blocks_with ["pieces", "stretches"] (defScope s_blocks_with) := ⟨rfl, rfl, rfl, by decide +kernel, rfl, by decide +kernel, by decide +kernel⟩
theorem ok_blocks_with (T : Txt K mg) : Cl P w K mg base CX0 "blocks_with" ["pieces", "stretches"] 3 [] sp_blocks_with := by
  obtain ⟨fd, F⟩ := T.def_ 44 (d := d_blocks_with) rfl
  have C_take := ok_take (P := P) (w := w) (base := base) T
  have C_add_block := ok_add_block (P := P) (w := w) (base := base) T
  have C_power_of_two := ok_power_of_two (P := P) (w := w) (base := base) T
  have C_add_parts := ok_add_parts (P := P) (w := w) (base := base) T
  refine cl_ok F (T.glo 41) (fun _ _ _ _ _ _ us hl => match us, hl with | [_, _], _ => rfl) sc_blocks_with (fun vs H Q E h => ?_) (fun cdv A outer s H vs Q E hr h => ?_)
  · obtain ⟨a, b, Ps, ss, rfl, _⟩ := h
    rfl
  · obtain ⟨a, b, Ps, ss, rfl, ha, hb, ho, ps, hst, hz, hN, k⟩ := h
    refine ⟨_, (pss_cons (ps_set (i := 2) sc_blocks_with.nd rfl (Or.inl rfl) (pe_lst pa_nil))
      (pss_cons (ps_set (i := 3) sc_blocks_with.nd rfl (Or.inl rfl) (pe_callTy (call_list_ofK K) (by rfl) (T.free 88) bt_list (pa_cons (pv 1) pa_nil)))
      (pss_cons (ps_for PassesOwn.never rfl (pi_list (pv 0)) (pg_tup rfl (pgs_cons (pg_name (i := 4) sc_blocks_with.nd rfl (Or.inl rfl)) (pgs_cons (pg_name (i := 5) sc_blocks_with.nd rfl (Or.inl rfl)) (pgs_cons (pg_name (i := 6) sc_blocks_with.nd rfl (Or.inl rfl)) pgs_nil))))
        (pss_cons (ps_if (PW.pt (pw_or (pt_cmpR (op_notIn_seqK K) (pv 4) (pe_gr (T.glo 77)) rfl) (pw_or1 (pt_cmpR oEq (pv 5) pe_int (nomark _)))))
          (pss_cons (ps_for PassesOwn.never rfl (pi_list (pe_cl C_take (hr.mono (by decide)) (pa_cons (pv 3) (pa_cons (pv 6) pa_nil)))) (pg_tup rfl (pgs_cons (pg_name (i := 7) sc_blocks_with.nd rfl (Or.inl rfl)) (pgs_cons (pg_name (i := 8) sc_blocks_with.nd rfl (Or.inl rfl)) pgs_nil)))
            (pss_one (ps_expr (pe_cl C_add_block (hr.mono (by decide)) (pa_cons (pv 2) (pa_cons (pv 4) (pa_cons (pv 8) (pa_cons (pv 7) pa_nil))))))))
          (pss_one ps_continue))
          pss_nil)
        (pss_one (ps_for PassesOwn.never rfl (pi_range1 (by rfl) (T.free 91) (pa_cons (pv 6) pa_nil)) (pg_name (i := 9) sc_blocks_with.nd rfl (Or.inl rfl))
          (pss_cons (ps_setLc (i := 10) (own := [("positions", 7), ("level", 8)]) (g := (gTup K 2 (gCons (gName 7) (gCons (gName 8) gNil)))) (tt := tYes) rfl sc_blocks_with.nd rfl rfl (sw_true rfl rfl rfl (by decide +kernel)) (pi_list (pe_cl C_take (hr.mono (by decide)) (pa_cons (pv 3) (pa_cons (pv 5) pa_nil)))) (blkOk_by (N := n_blocks_with) (sc := defScope s_blocks_with) (by decide +kernel)) (fun _ _ _ _ _ => (pg_tup rfl (pgs_cons (pg_name (i := 7) sc_blocks_with.nd rfl (Or.inl rfl)) (pgs_cons (pg_name (i := 8) sc_blocks_with.nd rfl (Or.inl rfl)) pgs_nil)))) (fun _ _ _ _ _ => pts_nil) (fun _ _ _ _ _ => (pe_tup (pa_cons (pv 8) (pa_cons (pe_op oDiv (pv 7) (pe_cl C_power_of_two (hr.mono (by decide)) (pa_cons (pv 8) pa_nil))) pa_nil)))))
          (pss_one (ps_expr (pe_cl C_add_parts (hr.mono (by decide)) (pa_cons (pv 2) (pa_cons (pv 10) (pa_cons (pe_cmpR oEqS (pv 4) (pe_gs (T.str 105)) (nomark _)) pa_nil)))))))))))
      (pss_one (ps_ret (pv 2)))))), ?_⟩
    refine ⟨z0, fun l nl => ?_⟩
    have s1 : Same H (upd H l (.lst [])) := Same.new nl
    obtain ⟨xs, hxs, hxl⟩ := ha.lst
    rw [enB_len] at hxl
    obtain ⟨ys, hys, py⟩ := hb.same s1
    refine ⟨_, rfl, b, ys, rfl, .inl (SqL.h hys), fun f nf => ?_⟩
    have s2 : Same (upd H l (.lst [])) (upd (upd H l (.lst [])) f (.lst ys)) := Same.new nf
    have nf0 : H f = none := s1.free nf
    have fl : f ≠ l := by
      rintro rfl
      rw [upd_same] at nf; cases nf
    have s12 := s1.trans s2
    have hsym : ∀ c ∈ bwu (exR Ps) (stx ss), Sym c.1 := fun c hc => by
      rcases bwu_mem hc with q | q | ⟨u, hu, e⟩
      · exact .inl q
      · exact .inr (.inl q)
      · obtain ⟨x, hx, rfl⟩ := mem_exR1 hu
        rw [← e]; exact ho.sym x hx
    have pre : ∀ C, (∃ R, C ++ R = bwu (exR Ps) (stx ss)) → (rn yes C).length ≤ 50000 ∧ ∀ c ∈ C, Sym c.1 := fun C ⟨R, hR⟩ =>
      ⟨Nat.le_trans (rn_mono C R) (by rw [hR]; exact hN), fun c hc => hsym c (by rw [← hR]; exact List.mem_append_left _ hc)⟩
    refine ⟨_, rfl, a, rfl, ⟨_, SqL.h (s12 _ _ hxs)⟩, for_list (K := K) (a := a) (xs := xs) (fun i σ H' => Same H H' ∧ ∃ (v4 v5 v6 v7 v8 v9 v10 : Option V) (C : List Ch) (ss' : Sts), σ = [some (.ref a), some (.ref b), some (.ref l), some (.ref f), v4, v5, v6, v7, v8, v9, v10] ∧ LT H' l (enB (rn yes C)) ∧ LT H' f (enN ss') ∧ PosS ss' ∧ ss'.length ≤ ss.length ∧ StOk (exR (Ps.drop i)) (stx ss') ∧ bwu (exR Ps) (stx ss) = C ++ bwu (exR (Ps.drop i)) (stx ss'))
      ⟨s12, none, none, none, none, none, none, none, [], ss, rfl, (LT.nil upd_same).same s2, ⟨ys, upd_same, L2.Paired.mapP py fun _ _ => RowV.same s2⟩, ps, Nat.le_refl _, hst, rfl⟩ (fun i σ H' _ h => SqL.h (h.1 _ _ hxs)) ?_ ?_⟩
    · rintro i x σ H' hx ⟨sH, v4, v5, v6, v7, v8, v9, v10, C, ss', rfl, hl, hf, ps', hsl, st, hC⟩
      obtain ⟨r, t0, e1, rfl, e3⟩ := (ha.same sH).row (sH _ _ hxs) hx
      obtain ⟨⟨⟨z, sz⟩, m⟩, e4, rfl⟩ := enB_get e1
      have mem := List.mem_of_getElem? e4
      have hsz := ho.sym _ mem
      have hp := ho.pos _ mem
      have hp1 : 1 ≤ m := hp.1
      have hp2 : 1 ≤ sz := hp.2
      rw [dropc e4, exR_cons] at hC st
      have st' : StOk (List.replicate m (z, sz) ++ exR (Ps.drop (i + 1))) (stx ss') := st
      have hC' : bwu (exR Ps) (stx ss) = C ++ bwu (List.replicate m (z, sz) ++ exR (Ps.drop (i + 1))) (stx ss') := hC
      have pC := pre C ⟨_, hC.symm⟩
      obtain ⟨ls0, hls0, _⟩ := hl.lst
      obtain ⟨fs0, hfs0, _⟩ := hf.lst
      refine ⟨t0, _, rfl, SqT.h e3, rfl, _, _, rfl, _, _, rfl, _, _, rfl, rfl, ?_⟩
      refine ⟨_, rfl, _, _, rfl, .inr (special_at T _), rfl, rfl, _, rfl, ?_⟩
      show if (!inV (.str z) [.str sB, .str sQ]) = true then _ else _
      rw [inV_special]
      refine or_tt (c2 := decide (sz = 1)) ?_ fun _ q => ⟨_, rfl, sz, 1, rfl, rfl, _, rfl, q _ rfl⟩
      have hor : (!decide (z = sB ∨ z = sQ) || decide (sz = 1)) = decide (sz = 1) := by
        by_cases hg : z = sB ∨ z = sQ
        · rw [decide_eq_true hg]; rfl
        · rw [decide_eq_true (ho.pl _ mem hg : sz = 1)]; cases (!decide (z = sB ∨ z = sQ)) <;> rfl
      rw [hor]
      refine ite2 (fun h1 => ?_) (fun h1 => ?_)
      · have z1 : sz = 1 := of_decide_eq_true h1
        subst z1
        have t1 : tot (List.replicate m (z, 1)) = m := (tot_repz z 1 m).trans (Nat.mul_one m)
        have fa := st'.fit.app
        rw [t1] at fa
        have hlen : m ≤ (stx ss').length := by
          have := st'.fit.len
          have e : tot (List.replicate m (z, 1) ++ exR (Ps.drop (i + 1))) = m + tot (exR (Ps.drop (i + 1))) := by rw [tot_app, t1]
          omega
        have eb : bwu (List.replicate m (z, 1) ++ exR (Ps.drop (i + 1))) (stx ss') = ((stx ss').take m).map (fun l => (z, l)) ++ bwu (exR (Ps.drop (i + 1))) ((stx ss').drop m) := by
          rw [bwu_app, t1, bwu_ones fa.1]
        rw [eb, ← List.append_assoc] at hC'
        refine ⟨_, rfl, _, rfl, f, m, ss', rfl, hf, ps', hlen, by omega, fun H2 q ss2 m2 nq h2 hf2 ps2 hs2 hsl2 => ?_⟩
        have hl2 := hl.mod (Ne.symm fl) hfs0 m2
        have s2' := m2.same sH nf0
        obtain ⟨qs, hqs, hql⟩ := h2.lst
        rw [enL_len] at hql
        have ql : q ≠ l := by
          rintro rfl
          rw [nq] at hls0; cases hls0
        have ex : exR (rl ((stx ss').take m)) = (stx ss').take m := exR_rn _
        generalize rl ((stx ss').take m) = rs at h2 hql ex
        refine ⟨q, rfl, ⟨_, SqL.h hqs⟩, for_list (K := K) (a := q) (xs := qs) (fun j σ H3 => Mod l H2 H3 ∧ ∃ (v7 v8 : Option V), σ = [some (.ref a), some (.ref b), some (.ref l), some (.ref f), some (.str z), some (vN 1), some (vN m), v7, v8, v9, v10] ∧ LT H3 l (enB (rn yes (C ++ (exR (rs.take j)).map fun l => (z, l)))))
          ⟨Mod.refl, v7, v8, rfl, by show LT H2 l (enB (rn yes (C ++ []))); rw [List.append_nil]; exact hl2⟩ (fun j σ H3 _ h => SqL.h (h.1 _ _ ql hqs)) ?_ ?_⟩
        · rintro j y σ H3 hy ⟨m3, w7, w8, rfl, hl3⟩
          obtain ⟨ls2, hls2, _⟩ := hl2.lst
          obtain ⟨r, t1', f1, rfl, f3⟩ := (h2.mod ql hls2 m3).row (m3 _ _ ql hqs) hy
          obtain ⟨⟨lv, c⟩, f4, rfl⟩ := enL_get f1
          have eC : C ++ (exR (rs.take (j + 1))).map (fun l => (z, l)) = C ++ (exR (rs.take j)).map (fun l => (z, l)) ++ List.replicate c (z, lv) := by
            rw [exB_more f4, List.map_append, List.map_replicate, ← List.append_assoc]
          have pC2 := pre (C ++ (exR (rs.take j)).map fun l => (z, l)) ⟨(exR (rs.drop j)).map (fun l => (z, l)) ++ bwu (exR (Ps.drop (i + 1))) ((stx ss').drop m), by
            rw [hC', ← ex, exR_take_drop rs j, List.map_append, List.append_assoc, List.append_assoc, List.append_assoc]⟩
          refine ⟨t1', _, rfl, SqT.h f3, rfl, _, _, rfl, _, _, rfl, rfl, ?_⟩
          refine ⟨_, rfl, _, rfl, _, rfl, _, rfl, l, z, lv, c, _, rfl, hl3, rn_sym pC2.2, hsz, by have := pC2.1; omega, fun H4 m4 h4 => ?_⟩
          rw [← rn_rep _ _ rfl, ← eC] at h4
          exact ⟨m3.trans m4, _, _, rfl, h4⟩
        · rintro σ H3 ⟨m3, w7, w8, rfl, hl3⟩
          have et : rs.take qs.length = rs := by rw [hql]; exact List.take_length
          rw [et, ex] at hl3
          obtain ⟨ls2, hls2, _⟩ := hl2.lst
          exact ⟨m3.same s2' nl, _, _, _, _, _, _, _, _, ss2, rfl, hl3, hf2.mod fl hls2 m3, ps2, Nat.le_trans hsl2 hsl, ⟨by rw [hs2]; exact fa.2, by rw [hs2]; exact st'.dn.drop m, fun x hx => st'.le x (List.mem_of_mem_drop (by rw [← hs2]; exact hx))⟩, by rw [hs2]; exact hC'⟩
      · have z1 : sz ≠ 1 := fun q => h1 (decide_eq_true q)
        have hg : z = sB ∨ z = sQ := Decidable.byContradiction fun q => z1 (ho.pl _ mem q)
        have mm : m ≤ 10000 := by
          rcases hg with q | q
          · have : m = 1 := ho.one _ mem q
            omega
          · exact ho.many _ mem q
        refine ⟨_, rfl, (m : Int), rfl, by omega, by omega, ?_⟩
        rw [Int.toNat_natCast]
        refine for_range (lo := 0) (n := m) (fun j σ H2 => Same H H2 ∧ ∃ (v7 v8 v9 v10 : Option V) (C : List Ch) (ss' : Sts), σ = [some (.ref a), some (.ref b), some (.ref l), some (.ref f), some (.str z), some (vN sz), some (vN m), v7, v8, v9, v10] ∧ LT H2 l (enB (rn yes C)) ∧ LT H2 f (enN ss') ∧ PosS ss' ∧ ss'.length ≤ ss.length ∧ StOk (List.replicate (m - j) (z, sz) ++ exR (Ps.drop (i + 1))) (stx ss') ∧ bwu (exR Ps) (stx ss) = C ++ bwu (List.replicate (m - j) (z, sz) ++ exR (Ps.drop (i + 1))) (stx ss')) ⟨sH, v7, v8, v9, v10, C, ss', rfl, hl, hf, ps', hsl, st', hC'⟩ ?_ ?_
        · rintro j σ H2 hj ⟨sH2, w7, w8, w9, w10, C2, s2', rfl, hl2, hf2, ps2, hsl2, st2, hC2⟩
          have ej : m - j = (m - (j + 1)) + 1 := by omega
          rw [ej, List.replicate_succ, List.cons_append] at st2 hC2
          obtain ⟨f1, f2, f3⟩ := st2.fit
          have f2' : Al ((stx s2').take sz) := f2 hg
          have f1' : sz ≤ (stx s2').length := f1
          have eb : bwu ((z, sz) :: (List.replicate (m - (j + 1)) (z, sz) ++ exR (Ps.drop (i + 1)))) (stx s2') = pch (qn z) (prt ((stx s2').take sz)) ++ bwu (List.replicate (m - (j + 1)) (z, sz) ++ exR (Ps.drop (i + 1))) ((stx s2').drop sz) := by
            show uch (z, sz) ((stx s2').take sz) ++ _ = _
            unfold uch
            rw [if_pos (show isG (z, sz) from hg)]
          rw [eb, ← List.append_assoc] at hC2
          have pC2 := pre C2 ⟨_, (List.append_assoc _ _ _ ▸ hC2).symm⟩
          have cd := st2.dn.take sz
          have cl : ∀ x ∈ (stx s2').take sz, x ≤ 200 := fun x hx => st2.le x (List.mem_of_mem_take hx)
          obtain ⟨ls2, hls2, _⟩ := hl2.lst
          obtain ⟨fs2, hfs2, _⟩ := hf2.lst
          refine ⟨_, rfl, _, rfl, f, sz, s2', rfl, hf2, ps2, f1', by omega, fun H3 q s3 m3 nq h3 hf3 ps3 hs3 hsl3 => ?_⟩
          have hl3 := hl2.mod (Ne.symm fl) hfs2 m3
          have sH3 := m3.same sH2 nf0
          have pl := prt_len cd cl
          have pg := (prt_lv cd f2').2
          have rlv : ∀ x ∈ rl ((stx s2').take sz), x.1 ≤ 200 := fun x hx => cl _ (rl_lvl hx)
          have ep : (prt ((stx s2').take sz)) = (rl ((stx s2').take sz)).map fun x => (x.1, x.2 / 2 ^ x.1) := rfl
          generalize (stx s2').take sz = c at hC2 h3 cd cl pl pg rlv ep f2'
          obtain ⟨qs, hqs, hql⟩ := h3.lst
          rw [enL_len] at hql
          have hpl : (prt c).length = (rl c).length := by rw [ep, List.length_map]
          refine ⟨q, rfl, ⟨_, SqL.h hqs⟩, fun D nD => lcL_rows (xs := qs) (fun i => (enN (prt c))[i]?) (by omega) nD (SqL.h hqs) (fun i x H4 hx s4 Qc Qn t => ?_) fun H4 s4 hD => ?_⟩
          · obtain ⟨r, t1, g1, rfl, g3⟩ := (h3.same s4).row (s4 _ _ hqs) hx
            obtain ⟨⟨lv, n⟩, g4, rfl⟩ := enL_get g1
            have lv2 : lv ≤ 200 := rlv _ (List.mem_of_getElem? g4)
            have ef : (enN (prt c))[i]? = some [vN lv, vN (n / 2 ^ lv)] := by
              unfold enN
              rw [ep, List.map_map, List.getElem?_map, g4]; rfl
            unfold TurnR at t
            rw [ef] at t
            refine ⟨t1, _, rfl, SqT.h g3, rfl, _, _, rfl, _, _, rfl, rfl, rfl, ?_⟩
            exact ⟨_, rfl, _, rfl, _, rfl, lv, rfl, by omega, n, 2 ^ lv, rfl, rfl, ⟨Nat.two_pow_pos _, Nat.pow_lt_pow_right (by decide) (show lv < 400 by omega)⟩, z2, fun u nu => t _ _ (Same.new nu) ⟨u, rfl, upd_same⟩⟩
          · rw [hql, ← hpl, ← enN_len (prt c), fm_some] at hD
            have nD0 : H D = none := sH3.free nD
            have Dl : D ≠ l := by
              rintro rfl
              obtain ⟨w3, hw3, _⟩ := hl3.lst
              rw [nD] at hw3; cases hw3
            have hl4 := hl3.same s4
            have hf4 := hf3.same s4
            obtain ⟨ls4, hls4, _⟩ := hl4.lst
            refine ⟨_, rfl, _, rfl, _, rfl, z, sQ, rfl, rfl, l, D, z, C2, prt c, rfl, Dl, hl4, hD, pC2.2, pg, by omega, pC2.1, fun H5 m5 h5 => ?_⟩
            refine ⟨m5.same (sH3.trans s4) nl, _, _, _, _, _, s3, rfl, h5, hf4.mod fl hls4 m5, ps3, Nat.le_trans hsl3 hsl2, ⟨by rw [hs3]; exact f3, by rw [hs3]; exact st2.dn.drop sz, fun x hx => st2.le x (List.mem_of_mem_drop (by rw [← hs3]; exact hx))⟩, by rw [hs3]; exact hC2⟩
        · rintro σ H2 ⟨sH2, w7, w8, w9, w10, C2, s2', rfl, hl2, hf2, ps2, hsl2, st2, hC2⟩
          rw [Nat.sub_self] at hC2 st2
          exact ⟨sH2, _, _, _, _, _, _, _, C2, s2', rfl, hl2, hf2, ps2, hsl2, st2, hC2⟩
    · rintro σ H' ⟨sH, v4, v5, v6, v7, v8, v9, v10, C, ss', rfl, hl, hf, ps', hsl, st, hC⟩
      have et : Ps.drop xs.length = [] := by rw [hxl]; exact List.drop_length
      rw [et] at hC
      have : bwu (exR Ps) (stx ss) = C := hC.trans (List.append_nil _)
      rw [← this] at hl
      exact ⟨_, rfl, k H' l sH nl hl⟩
end
end Sl


end
section
set_option Elab.async false
set_option linter.all false
set_option maxRecDepth 100000
set_option maxHeartbeats 4000000
namespace Sl
open PySem PySem.Spec PyProof.Rows L2
theorem LT.cat {H : Hp} {l b p : Addr} {ra rb : List (List V)} {xs ys : List V} (h1 : LT H l ra) (h2 : LT H b rb) (e1 : H l = some (.lst xs)) (e2 : H b = some (.lst ys)) (np : H p = none) : LT (L2.upd H p (.lst (xs ++ ys))) p (ra ++ rb) := by
  obtain ⟨xs', f1, g1⟩ := h1
  obtain ⟨ys', f2, g2⟩ := h2
  rw [e1] at f1; cases f1
  rw [e2] at f2; cases f2
  exact ⟨_, upd_same, Paired.app (L2.Paired.mapP g1 fun _ _ => RowV.same (Same.new np)) (L2.Paired.mapP g2 fun _ _ => RowV.same (Same.new np))⟩
theorem stB_pos {bs : List (Ch × Nat)} (h : ∀ x ∈ bs, 1 ≤ x.2) : PosS (stB bs) := fun y hy => by
  obtain ⟨x, hx, rfl⟩ := List.mem_map.mp hy
  exact Nat.mul_pos (h x hx) (wd_pos _ _)
theorem stB_len (bs : List (Ch × Nat)) : (stB bs).length = bs.length := List.length_map ..
theorem msx_le {U : List Un} {E : Nat} {cs ds : List Ch} (hc : HB U E cs) (hd : HB U E ds) (hle : ∀ p, p < tot U → lev (lvs cs) p ≤ lev (lvs ds) p) {ms : Ms} (e : msx ms = (lvs cs).zip (lvs ds)) (h1 : ∀ m ∈ ms, 1 ≤ m.1) : ∀ m ∈ ms, m.2.1 ≤ m.2.2 := fun m hm => by
  have : m.2 ∈ msx ms := List.mem_flatMap.mpr ⟨m, hm, by rw [List.mem_replicate]; exact ⟨by have := h1 m hm; omega, rfl⟩⟩
  rw [e] at this
  obtain ⟨p, hp, ep⟩ := List.mem_iff_getElem.mp this
  rw [List.length_zip, hc.tot, hd.tot, Nat.min_self] at hp
  rw [List.getElem_zip] at ep
  have a := hle p hp
  unfold lev at a
  rw [List.getD_eq_getElem?_getD, List.getD_eq_getElem?_getD, List.getElem?_eq_getElem (by rw [hc.tot]; exact hp), List.getElem?_eq_getElem (by rw [hd.tot]; exact hp)] at a
  rw [← ep]
  exact a
section
variable {P : Program} {w : World} {K : PySem.W.Frag} {mg : Str → Option Value} {base : Heap}
/-! ### is_below -/
def sp_is_below : Sp := fun vs H Q _ => ∃ (h h' : Addr) (U : List Un) (E : Nat) (cs ds : List Ch), vs = [.ref h, .ref h'] ∧ LT H h (enB (rn yes cs)) ∧ LT H h' (enB (rn yes ds)) ∧ UB U ∧ HB U E cs ∧ HB U E ds ∧ (∀ p, p < tot U → lev (lvs cs) p ≤ lev (lvs ds) p) ∧ ∀ H', Same H H' → Q (.bl true) H'
abbrev n_is_below : List Str := ["history", "other", "one", "two", "many", "first", "second"]
theorem sc_is_below : FnScope n_is_below ["history", "other"] (defScope s_is_below) := ⟨rfl, rfl, rfl, by decide +kernel, rfl, by decide +kernel, by decide +kernel⟩
theorem ok_is_below (T : Txt K mg) : Cl P w K mg base CX0 "is_below" ["history", "other"] 8 [] sp_is_below := by
  obtain ⟨fd, F⟩ := T.def_ 45 (d := d_is_below) rfl
  have C_checked_pair := ok_checked_pair (P := P) (w := w) (base := base) T
  have C_common_stretches := ok_common_stretches (P := P) (w := w) (base := base) T
  have C_stretches_of := ok_stretches_of (P := P) (w := w) (base := base) T
  refine cl_ok F (T.glo 42) (fun _ _ _ _ _ _ us hl => match us, hl with | [_, _], _ => rfl) sc_is_below (fun vs H Q E h => ?_) (fun cdv A outer s H vs Q E hr h => ?_)
  · obtain ⟨a, b, U, E, cs, ds, rfl, _⟩ := h
    rfl
  · obtain ⟨a, b, U, E, cs, ds, rfl, ha, hb, o, hc, hd, hle, k⟩ := h
    refine ⟨_, (pss_cons (ps_asg (pe_cl C_checked_pair (hr.mono (by decide)) (pa_cons (pv 0) (pa_cons (pv 1) pa_nil))) (pg_tup rfl (pgs_cons (pg_name (i := 2) sc_is_below.nd rfl (Or.inl rfl)) (pgs_cons (pg_name (i := 3) sc_is_below.nd rfl (Or.inl rfl)) pgs_nil))))
      (pss_one (ps_ret (pe_callB (cr_allK K rfl) (by rfl) (T.free 81) bt_all (pa_cons (pe_lc (own := [("many", 4), ("first", 5), ("second", 6)]) (g := (gTup K 3 (gCons (gName 4) (gCons (gName 5) (gCons (gName 6) gNil))))) (tt := tYes) rfl sc_is_below.nd (pi_list (pe_cl C_common_stretches (hr.mono (by decide)) (pa_cons (pe_cl C_stretches_of (hr.mono (by decide)) (pa_cons (pv 2) pa_nil)) (pa_cons (pe_cl C_stretches_of (hr.mono (by decide)) (pa_cons (pv 3) pa_nil)) pa_nil)))) (blkOk_by (N := n_is_below) (sc := defScope s_is_below) (by decide +kernel)) (fun _ _ _ _ _ => (pg_tup rfl (pgs_cons (pg_name (i := 4) sc_is_below.nd rfl (Or.inl rfl)) (pgs_cons (pg_name (i := 5) sc_is_below.nd rfl (Or.inl rfl)) (pgs_cons (pg_name (i := 6) sc_is_below.nd rfl (Or.inl rfl)) pgs_nil))))) (fun _ _ _ _ _ => pts_nil) (fun _ _ _ _ _ => (pe_cmpR oLe (pv 5) (pv 6) (nomark _)))) pa_nil))))), ?_⟩
    refine ⟨_, rfl, _, rfl, a, b, U, E, cs, ds, rfl, ha, hb, o, hc, hd, fun H1 q p p' s1 hq h1 h2 => ?_⟩
    refine ⟨q, _, rfl, SqT.h hq, rfl, _, _, rfl, _, _, rfl, rfl, ?_⟩
    have l1 := hc.len o
    have l2 := hd.len o
    refine ⟨_, rfl, p, _, rfl, h1, hc.bs o, fun H2 f s2 nf h3 => ?_⟩
    refine ⟨_, rfl, p', _, rfl, h2.same s2, hd.bs o, fun H3 g s3 ng h4 => ?_⟩
    refine ⟨f, g, _, _, rfl, h3.same s3, h4, stB_pos (rn_wr cs).pos, stB_pos (rn_wr ds).pos, ?_, by rw [stB_len]; omega, by rw [stB_len]; omega, fun H4 c ms s4 nc em m1 mz hm => ?_⟩
    · rw [stx_stB, stx_stB, HB.ex, HB.ex, hc.tot, hd.tot]
    rw [stx_stB, stx_stB, HB.ex, HB.ex] at em
    have mle := msx_le hc hd hle em m1
    obtain ⟨xs, hxs, hxl⟩ := hm.lst
    rw [enM_len] at hxl
    refine ⟨c, rfl, ⟨_, SqL.h hxs⟩, fun D nD => lcL_flat (xs := xs) (fun _ => some (.bl true)) (by omega) nD (SqL.h hxs) (fun i x H5 hx s5 Qc Qn t => ?_) fun H5 s5 hD => ?_⟩
    · obtain ⟨r, t0, e1, rfl, e3⟩ := (hm.same s5).row (s5 _ _ hxs) hx
      obtain ⟨m, e4, rfl⟩ : ∃ m, ms[i]? = some m ∧ r = [vN m.1, vN m.2.1, vN m.2.2] := by
        unfold enM at e1
        rw [List.getElem?_map] at e1
        cases e : ms[i]? with
        | none => rw [e] at e1; cases e1
        | some x => rw [e] at e1; exact ⟨x, rfl, (Option.some.inj e1).symm⟩
      have le := mle _ (List.mem_of_getElem? e4)
      refine ⟨t0, _, rfl, SqT.h e3, rfl, _, _, rfl, _, _, rfl, _, _, rfl, rfl, rfl, ?_⟩
      refine ⟨_, rfl, _, rfl, m.2.1, m.2.2, rfl, rfl, ?_⟩
      have e : V.bl (decide (m.2.1 ≤ m.2.2)) = V.bl true := decT le
      show Qc (V.bl (decide (m.2.1 ≤ m.2.2))) H5
      rw [e]
      exact t H5 (Same.refl _)
    · refine ⟨D, List.replicate xs.length true, rfl, by rw [← fm_true]; exact SqL.h hD, ?_⟩
      rw [all_true]
      exact k _ ((((s1.trans s2).trans s3).trans s4).trans s5)
/-! ### count_by -/
def sp_count_by : Sp := fun vs H Q _ => ∃ (h : Addr) (bs : List (Ch × Nat)), vs = [.ref h] ∧ LT H h (enB bs) ∧ bs.length ≤ 100000 ∧ ∀ H', Same H H' → Q (vN (exR bs).length) H'
abbrev n_count_by : List Str := ["blocks", "symbol", "level", "count"]
theorem sc_count_by : FnScope n_count_by ["blocks"] (defScope s_count_by) := ⟨rfl, rfl, rfl, by decide +kernel, rfl, by decide +kernel, by decide +kernel⟩
theorem ok_count_by (T : Txt K mg) : Cl P w K mg base CX0 "count_by" ["blocks"] 1 [] sp_count_by := by
  obtain ⟨fd, F⟩ := T.def_ 46 (d := d_count_by) rfl
  refine cl_ok F (T.glo 43) (fun _ _ _ _ _ _ us hl => match us, hl with | [_], _ => rfl) sc_count_by (fun vs H Q E h => ?_) (fun cdv A outer s H vs Q E hr h => ?_)
  · obtain ⟨a, bs, rfl, _⟩ := h
    rfl
  · obtain ⟨hh, bs, rfl, h1, hlen, k⟩ := h
    refine ⟨_, (pss_one (ps_ret (pe_callB (cr_sumK K rfl) (by rfl) (T.free 90) bt_sum (pa_cons (pe_lc (own := [("symbol", 1), ("level", 2), ("count", 3)]) (g := (gTup K 3 (gCons (gName 1) (gCons (gName 2) (gCons (gName 3) gNil))))) (tt := tYes) rfl sc_count_by.nd (pi_list (pv 0)) (blkOk_by (N := n_count_by) (sc := defScope s_count_by) (by decide +kernel)) (fun _ _ _ _ _ => (pg_tup rfl (pgs_cons (pg_name (i := 1) sc_count_by.nd rfl (Or.inl rfl)) (pgs_cons (pg_name (i := 2) sc_count_by.nd rfl (Or.inl rfl)) (pgs_cons (pg_name (i := 3) sc_count_by.nd rfl (Or.inl rfl)) pgs_nil))))) (fun _ _ _ _ _ => pts_nil) (fun _ _ _ _ _ => (pv 3))) pa_nil)))), ?_⟩
    obtain ⟨xs, hxs, hxl⟩ := h1.lst
    rw [enB_len] at hxl
    refine ⟨_, rfl, hh, rfl, ⟨_, SqL.h hxs⟩, fun D nD => lcL_flat (xs := xs) (fun i => bs[i]?.map fun x => vN x.2) (by omega) nD (SqL.h hxs) (fun i x H2 hx s2 Qc Qn t => ?_) fun H2 s2 hD => ?_⟩
    · obtain ⟨r, t0, e1, rfl, e3⟩ := (h1.same s2).row (s2 _ _ hxs) hx
      obtain ⟨y, e4, rfl⟩ := enB_get e1
      have t' : ∀ H', Same H2 H' → Qc (vN y.2) H' := by
        unfold TurnF at t
        rw [e4] at t
        exact t
      refine ⟨t0, _, rfl, SqT.h e3, rfl, _, _, rfl, _, _, rfl, _, _, rfl, rfl, rfl, ?_⟩
      exact ⟨_, rfl, t' _ (Same.refl _)⟩
    · have e : (List.range xs.length).filterMap (fun i => bs[i]?.map fun x => vN x.2) = (bs.map fun x => ((x.2 : Nat) : Int)).map V.int := by
        rw [hxl, fm_rows (k := fun x => some (vN x.2)) (fun i r h => by rw [h]; rfl), List.map_map]
        exact congrFun List.filterMap_eq_map bs
      rw [e] at hD
      refine ⟨D, _, rfl, SqL.h hD, ?_⟩
      rw [enB_count]
      exact k _ s2
/-! ### with_level -/
def sp_with_level : Sp := fun vs H Q _ => ∃ (h : Addr) (U : List Un) (E : Nat) (cs : List Ch) (st sz l : Nat), vs = [.ref h, vN st, vN sz, vN l] ∧ LT H h (enB (rn yes cs)) ∧ UB U ∧ HB U E cs ∧ 1 ≤ sz ∧ st + sz ≤ tot U ∧ Hl U E (wLev (lvs cs) st sz l) ∧ ∀ H' p, Same H H' → H p = none → LT H' p (enB (rn yes (bwu U (wLev (lvs cs) st sz l)))) → Q (.ref p) H'
abbrev n_with_level : List Str := ["blocks", "start", "size", "level", "left", "stretches"]
theorem sc_with_level : FnScope n_with_level ["blocks", "start", "size", "level"] (defScope s_with_level) := ⟨rfl, rfl, rfl, by decide +kernel, rfl, by decide +kernel, by decide +kernel⟩
theorem ok_with_level (T : Txt K mg) : Cl P w K mg base CX0 "with_level" ["blocks", "start", "size", "level"] 4 [] sp_with_level := by
  obtain ⟨fd, F⟩ := T.def_ 47 (d := d_with_level) rfl
  have C_stretches_of := ok_stretches_of (P := P) (w := w) (base := base) T
  have C_take := ok_take (P := P) (w := w) (base := base) T
  have C_blocks_with := ok_blocks_with (P := P) (w := w) (base := base) T
  have C_pieces_of := ok_pieces_of (P := P) (w := w) (base := base) T
  refine cl_ok F (T.glo 44) (fun _ _ _ _ _ _ us hl => match us, hl with | [_, _, _, _], _ => rfl) sc_with_level (fun vs H Q E h => ?_) (fun cdv A outer s H vs Q E hr h => ?_)
  · obtain ⟨a, U, E, cs, st, sz, l, rfl, _⟩ := h
    rfl
  · obtain ⟨hh, U, E, cs, st, sz, l, rfl, h1, o, hc, hz1, hz2, hl, k⟩ := h
    refine ⟨_, (pss_cons (ps_set (i := 4) sc_with_level.nd rfl (Or.inl rfl) (pe_cl C_stretches_of (hr.mono (by decide)) (pa_cons (pv 0) pa_nil)))
      (pss_cons (ps_set (i := 5) sc_with_level.nd rfl (Or.inl rfl) (pe_op op_cat (pe_cl C_take (hr.mono (by decide)) (pa_cons (pv 4) (pa_cons (pv 1) pa_nil))) (pe_lst (pa_cons (pe_tup (pa_cons (pv 2) (pa_cons (pv 3) pa_nil))) pa_nil))))
      (pss_cons (ps_expr (pe_cl C_take (hr.mono (by decide)) (pa_cons (pv 4) (pa_cons (pv 2) pa_nil))))
      (pss_one (ps_ret (pe_cl C_blocks_with (hr.mono (by decide)) (pa_cons (pe_cl C_pieces_of (hr.mono (by decide)) (pa_cons (pv 0) pa_nil)) (pa_cons (pe_op op_cat (pv 5) (pv 4)) pa_nil)))))))), ?_⟩
    have len := hc.len o
    obtain ⟨hb2, hlv⟩ := hc_bwu o.wu hl
    have HB2 : HB U E (bwu U (wLev (lvs cs) st sz l)) := ⟨hb2, hc.e⟩
    have len2 := HB2.len o
    refine ⟨_, rfl, hh, _, rfl, h1, hc.bs o, fun H2 f s2 nf h2 => ?_⟩
    have ps0 := stB_pos (bs := rn yes cs) (rn_wr cs).pos
    have e0 : stx (stB (rn yes cs)) = lvs cs := by rw [stx_stB, HB.ex]
    have l0 : (stB (rn yes cs)).length ≤ 1200 := by rw [stB_len]; exact len
    generalize stB (rn yes cs) = ss at h2 ps0 e0 l0
    refine ⟨_, rfl, _, rfl, f, st, ss, rfl, h2, ps0, by rw [e0, hc.tot]; omega, by omega, fun H3 p s3 m3 np h3 hf3 ps3 hs3 hsl3 => ?_⟩
    have S3 := m3.same s2 nf
    rw [e0] at h3 hs3
    have l3 := rl_take ss st
    rw [e0] at l3
    refine ⟨_, rfl, _, rfl, z2, fun t nt => ⟨z1, fun q nq => ?_⟩⟩
    have s4 : Same H3 (upd H3 t (.tup [vN sz, vN l])) := Same.new nt
    have s5 : Same (upd H3 t (.tup [vN sz, vN l])) (upd (upd H3 t (.tup [vN sz, vN l])) q (.lst [.ref t])) := Same.new nq
    have h5 := (h3.same s4).same s5
    obtain ⟨ys, hys, hyl⟩ := h5.lst
    rw [enL_len] at hyl
    have hq5 : LT (upd (upd H3 t (.tup [vN sz, vN l])) q (.lst [.ref t])) q (enN [(sz, l)]) := ⟨_, upd_same, .cons ⟨t, rfl, s5 _ _ upd_same⟩ .nil⟩
    refine ⟨p, q, ys, [.ref t], rfl, rfl, hys, upd_same, by rw [hyl]; show _ + 1 ≤ _; exact sle (by omega), fun g ng => ?_⟩
    have s6 : Same (upd (upd H3 t (.tup [vN sz, vN l])) q (.lst [.ref t])) (upd (upd (upd H3 t (.tup [vN sz, vN l])) q (.lst [.ref t])) g (.lst (ys ++ [.ref t]))) := Same.new ng
    have hg := LT.cat h5 hq5 hys upd_same ng
    have s46 := (s4.trans s5).trans s6
    have hf6 := hf3.same s46
    have S6 := S3.trans s46
    have gf : g ≠ f := by
      rintro rfl
      obtain ⟨w, hw, _⟩ := hf3.lst
      rw [(s4.trans s5) _ _ hw] at ng; cases ng
    generalize upd (upd (upd H3 t (.tup [vN sz, vN l])) q (.lst [.ref t])) g (.lst (ys ++ [.ref t])) = H6 at hg hf6 S6 ⊢
    obtain ⟨fs, hfs, _⟩ := hf6.lst
    refine ⟨_, rfl, _, rfl, f, sz, s3, rfl, hf6, ps3, by rw [hs3, List.length_drop, hc.tot]; omega, by omega, fun H7 p7 s7 m7 np7 _ hf7 ps7 hs7 hsl7 => ?_⟩
    have S7 := m7.same S6 nf
    have hg7 := hg.mod gf hfs m7
    rw [hs3, List.drop_drop] at hs7
    refine ⟨_, rfl, hh, _, rfl, h1.same S7, hc.bs o, fun H8 p8 s8 np8 h8 => ?_⟩
    rw [HB.ex, hc.hc.prs] at h8
    have hg8 := hg7.same s8
    have hf8 := hf7.same s8
    obtain ⟨gs, hgs, hgl⟩ := hg8.lst
    obtain ⟨fs8, hfs8, hfl⟩ := hf8.lst
    rw [enN_len] at hfl
    rw [List.length_append, enL_len, enN_len] at hgl
    have hgl' : gs.length ≤ 1201 := by rw [hgl]; show _ + 1 ≤ _; omega
    refine ⟨_, rfl, _, rfl, g, f, gs, fs8, rfl, rfl, hgs, hfs8, sle (by omega), fun r nr => ?_⟩
    have s9 : Same H8 (upd H8 r (.lst (gs ++ fs8))) := Same.new nr
    have hr := LT.cat hg8 hf8 hgs hfs8 nr
    rw [enL_swap, ← enN_app, ← enN_app] at hr
    have rlx : stx ((rl ((lvs cs).take st)).map fun x => (x.2, x.1)) = (lvs cs).take st := by
      have e := exR_rn (mg := yes) ((lvs cs).take st)
      rw [stx_ex, List.map_map]
      exact (congrArg exR (List.map_id' _)).trans e
    have ew : stx ((rl ((lvs cs).take st)).map (fun x => (x.2, x.1)) ++ [(sz, l)] ++ s7) = wLev (lvs cs) st sz l := by
      rw [stx_app, stx_app, rlx, hs7]
      unfold wLev
      rw [List.append_assoc]
      show _ ++ ((List.replicate sz l ++ []) ++ _) = _
      rw [List.append_nil]
    refine ⟨p8, r, pcs U, _, rfl, h8.same s9, hr, o.pc, ?_, ?_, ?_, ?_, fun H10 p10 s10 np10 h10 => ?_⟩
    · intro x hx
      rcases List.mem_append.mp hx with q | q
      · rcases List.mem_append.mp q with q | q
        · obtain ⟨y, hy, rfl⟩ := List.mem_map.mp q
          exact (rn_wr _).pos y hy
        · rw [List.mem_singleton.mp q]; exact hz1
      · exact ps7 x q
    · rw [ew, exR_pcs]
      exact ⟨hl.fit, hl.dn, fun x hx => Nat.le_trans (hl.le x hx) hc.e⟩
    · rw [List.length_append, List.length_append, List.length_map]
      show _ + 1 + _ ≤ _
      omega
    · rw [ew, exR_pcs]; omega
    · rw [ew, exR_pcs] at h10
      exact k H10 p10 (((S7.trans s8).trans s9).trans s10) ((S7.trans s8).trans s9 |>.free np10) h10
/-! ### lowered_by -/
def sp_lowered_by : Sp := fun vs H Q _ => ∃ (h : Addr) (U : List Un) (E : Nat) (cs : List Ch) (n : Nat), vs = [.ref h, vN n] ∧ LT H h (enB (rn yes cs)) ∧ UB U ∧ HB U E cs ∧ n < cs.length ∧ (∀ H', Same H H' → Q .non H') ∧ ∀ H' p ds, Same H H' → H p = none → HB U E ds → LT H' p (enB (rn yes ds)) → Q (.ref p) H'
abbrev n_lowered_by : List Str := ["blocks", "number", "found", "symbol", "level", "start", "size", "following"]
theorem sc_lowered_by : FnScope n_lowered_by ["blocks", "number"] (defScope s_lowered_by) := ⟨rfl, rfl, rfl, by decide +kernel, rfl, by decide +kernel, by decide +kernel⟩
theorem ok_lowered_by (T : Txt K mg) : Cl P w K mg base CX0 "lowered_by" ["blocks", "number"] 5 [] sp_lowered_by := by
  obtain ⟨fd, F⟩ := T.def_ 48 (d := d_lowered_by) rfl
  have C_numbered_by := ok_numbered_by (P := P) (w := w) (base := base) T
  have C_with_level := ok_with_level (P := P) (w := w) (base := base) T
  refine cl_ok F (T.glo 45) (fun _ _ _ _ _ _ us hl => match us, hl with | [_, _], _ => rfl) sc_lowered_by (fun vs H Q E h => ?_) (fun cdv A outer s H vs Q E hr h => ?_)
  · obtain ⟨a, U, E, cs, n, rfl, _⟩ := h
    rfl
  · obtain ⟨hh, U, E, cs, n, rfl, h1, o, hc, hn, k0, k1⟩ := h
    refine ⟨_, (pss_cons (ps_asg (pe_cl C_numbered_by (hr.mono (by decide)) (pa_cons (pv 0) (pa_cons (pv 1) pa_nil))) (pg_tup rfl (pgs_cons (pg_name (i := 2) sc_lowered_by.nd rfl (Or.inl rfl)) (pgs_cons (pg_name (i := 3) sc_lowered_by.nd rfl (Or.inl rfl)) (pgs_cons (pg_name (i := 4) sc_lowered_by.nd rfl (Or.inl rfl)) (pgs_cons (pg_name (i := 5) sc_lowered_by.nd rfl (Or.inl rfl)) (pgs_cons (pg_name (i := 6) sc_lowered_by.nd rfl (Or.inl rfl)) pgs_nil)))))))
      (pss_cons (ps_set (i := 7) sc_lowered_by.nd rfl (Or.inl rfl) (pe_cl C_numbered_by (hr.mono (by decide)) (pa_cons (pv 0) (pa_cons (pe_op oAdd (pv 1) pe_int) pa_nil))))
      (pss_cons (ps_if (PW.pt (pw_or (pt_cmpR oEq (pv 4) pe_int (nomark _)) (pw_or1 (PW.pt (pw_and (pt_cmpR op_notN (pv 7) pe_non (nomark _)) (pw_and1 (pt_cmpR oEq (pe_ix (ix_tupK K) (pv 7) pe_int (fun _ _ => rfl)) (pv 4) (nomark _))))))))
        (pss_one (ps_ret pe_non))
        pss_nil)
      (pss_one (ps_ret (pe_cl C_with_level (hr.mono (by decide)) (pa_cons (pv 0) (pa_cons (pv 5) (pa_cons (pv 6) (pa_cons (pe_op oSub (pv 4) pe_int) pa_nil)))))))))), ?_⟩
    have hA : nA cs n = some (n, cs[n].1, cs[n].2, (lvs (cs.take n)).length, wd cs[n].1 cs[n].2) := by
      unfold nA
      rw [List.getElem?_eq_getElem hn]; rfl
    have low := hc.hc.low hA
    have hw1 := wd_pos cs[n].1 cs[n].2
    generalize cs[n].1 = z at hA low hw1
    generalize cs[n].2 = lv at hA low hw1
    generalize (lvs (cs.take n)).length = st at hA low
    generalize wd z lv = sz at hA low hw1
    refine ⟨_, rfl, _, rfl, hh, _, n, rfl, h1, hc.bs o, ?_⟩
    rw [HB.ex, hA]
    intro H2 q s2 nq hq
    refine ⟨q, _, rfl, SqT.h hq, rfl, _, _, rfl, _, _, rfl, _, _, rfl, _, _, rfl, _, _, rfl, rfl, ?_⟩
    refine ⟨_, rfl, _, rfl, n, 1, rfl, rfl, hh, _, n + 1, rfl, h1.same s2, hc.bs o, ?_⟩
    rw [HB.ex]
    have go : ∀ (v : V) (H3 : Hp), Same H2 H3 → lv ≠ 0 → (∀ t, nA cs (n + 1) = some t → t.2.2.1 ≠ lv) → tRet (tCall sp_with_level [] E0 (tCons (tVar 0) (tCons (tVar 5) (tCons (tVar 6) (tCons (tOp (rN (fun n m => m ≤ n) fun n m => vN (n - m)) (tVar 4) (tC (.int 1))) tNil))))) { nx := fun x H' => Q .non H', rt := Q } [some (.ref hh), some (vN n), some (vN n), some (.str z), some (vN lv), some (vN st), some (vN sz), some v] H3 := fun v H3 s3 h0 hf => by
      obtain ⟨q1, q2⟩ := low h0 hf
      obtain ⟨hb2, _⟩ := hc_bwu o.wu q1
      exact ⟨_, rfl, _, rfl, _, rfl, _, rfl, lv, 1, rfl, rfl, by omega, hh, U, E, cs, st, sz, lv - 1, rfl, (h1.same s2).same s3, o, hc, hw1, q2, q1, fun H4 p s4 np h4 => k1 H4 p _ ((s2.trans s3).trans s4) ((s2.trans s3).free np) ⟨hb2, hc.e⟩ h4⟩
    cases hB : nA cs (n + 1) with
    | none =>
      intro H3 s3
      refine ⟨_, rfl, lv, 0, rfl, rfl, _, rfl, ite2 (fun h0 => ?_) (fun h0 => ?_)⟩
      · exact k0 _ (s2.trans s3)
      · have h0' : lv ≠ 0 := fun q => h0 (decide_eq_true q)
        refine ⟨_, rfl, rfl, false, rfl, ?_⟩
        exact go .non H3 s3 h0' fun t e => by rw [hB] at e; cases e
    | some t =>
      intro H3 q3 s3 nq3 hq3
      refine ⟨_, rfl, lv, 0, rfl, rfl, _, rfl, ite2 (fun h0 => ?_) (fun h0 => ?_)⟩
      · exact k0 _ (s2.trans s3)
      · have h0' : lv ≠ 0 := fun q => h0 (decide_eq_true q)
        refine ⟨_, rfl, rfl, true, rfl, iteT ?_⟩
        refine ⟨_, rfl, q3, _, _, _, rfl, rfl, SqT.h hq3, atI_nat (j := 2) rfl, _, rfl, t.2.2.1, lv, rfl, rfl, _, rfl, ite2 (fun h2 => ?_) (fun h2 => ?_)⟩
        · exact k0 _ (s2.trans s3)
        · refine go (.ref q3) H3 s3 h0' fun t' e => ?_
          rw [hB] at e
          rw [← Option.some.inj e]
          exact fun q => h2 (decide_eq_true q)
/-! ### checked_number -/
def sp_checked_number : Sp := fun vs H Q _ => ∃ (h : Addr) (U : List Un) (E : Nat) (cs : List Ch) (n : Nat), vs = [.ref h, vN n] ∧ LT H h (enB (rn yes cs)) ∧ UB U ∧ HB U E cs ∧ n < cs.length ∧ ∀ H' p, Same H H' → H p = none → LT H' p (enB (rn yes cs)) → Q (.ref p) H'
abbrev n_checked_number : List Str := ["history", "number", "blocks"]
theorem sc_checked_number : FnScope n_checked_number ["history", "number"] (defScope s_checked_number) := ⟨rfl, rfl, rfl, by decide +kernel, rfl, by decide +kernel, by decide +kernel⟩
theorem ok_checked_number (T : Txt K mg) : Cl P w K mg base CX0 "checked_number" ["history", "number"] 7 [] sp_checked_number := by
  obtain ⟨fd, F⟩ := T.def_ 49 (d := d_checked_number) rfl
  have C_checked_blocks := ok_checked_blocks (P := P) (w := w) (base := base) T
  have C_is_integer3 := ok_is_integer3 (P := P) (w := w) (base := base) T
  have C_count_by := ok_count_by (P := P) (w := w) (base := base) T
  refine cl_ok F (T.glo 46) (fun _ _ _ _ _ _ us hl => match us, hl with | [_, _], _ => rfl) sc_checked_number (fun vs H Q E h => ?_) (fun cdv A outer s H vs Q E hr h => ?_)
  · obtain ⟨a, U, E, cs, n, rfl, _⟩ := h
    rfl
  · obtain ⟨hh, U, E, cs, n, rfl, h1, o, hc, hn, k⟩ := h
    refine ⟨_, (pss_cons (ps_set (i := 2) sc_checked_number.nd rfl (Or.inl rfl) (pe_cl C_checked_blocks (hr.mono (by decide)) (pa_cons (pv 0) pa_nil)))
      (pss_cons (ps_if (pt_not (pt_val (pe_cl C_is_integer3 (hr.mono (by decide)) (pa_cons (pv 1) (pa_cons pe_int (pa_cons (pe_op oSub (pe_cl C_count_by (hr.mono (by decide)) (pa_cons (pv 2) pa_nil)) pe_int) pa_nil))))))
        (pss_one ps_never)
        pss_nil)
      (pss_one (ps_ret (pv 2))))), ?_⟩
    have len := hc.len o
    refine ⟨_, rfl, hh, _, rfl, h1, hc.bk o, by omega, fun H2 p s2 np h2 => ?_⟩
    refine ⟨_, rfl, _, rfl, p, _, rfl, h2, by omega, fun H3 s3 => ?_⟩
    rw [HB.ex]
    refine ⟨cs.length, 1, rfl, rfl, by omega, n, 0, some (cs.length - 1), rfl, true, ?_, iteF ?_⟩
    · show V.bl (decide (0 ≤ n) && decide (n ≤ cs.length - 1)) = _
      rw [decide_eq_true (Nat.zero_le n), decide_eq_true (show n ≤ cs.length - 1 by omega)]; rfl
    · exact ⟨_, rfl, k H3 p (s2.trans s3) np (h2.same s3)⟩
end
end Sl


end
section
set_option Elab.async false
set_option linter.all false
set_option maxRecDepth 100000
set_option maxHeartbeats 4000000
namespace Sl
open PySem PySem.Spec PyProof.Rows L2
/-! ### the class Contradiction -/
theorem oexB_ok {K : PySem.W.Frag} {C : Addr} (q : oexB K C = true) :
    ∃ nm qn N bs bm sn sub ab col dd k0 k1 k2 k3 k5, K.lookup C = some (excClassObj nm qn C N bs bm true sn sub ab col dd k0 k1 k2 k3 k5 "ValueError.__new__") ∧ PySem.HandSPX.refsVE bm = true := by
  unfold oexB at q
  split at q
  · rename_i dd cd sl ho
    split at q
    · rename_i C' bm k0 k1 k2 k3 n k5 hm hs
      simp only [Bool.and_eq_true, beq_iff_eq, Bool.not_eq_true'] at q
      obtain ⟨rfl, rfl, hdel, hdc, hr⟩ := q
      obtain ⟨nm, bs, mro, ns, qn, hd, sn, sub, ab, col, del⟩ := cd
      dsimp only at hm hdel hdc
      subst hm hdel hdc
      have hsl : sl = #[k0, k1, k2, k3, some (.builtin "ValueError.__new__"), k5] := by
        obtain ⟨l⟩ := sl
        simp only at hs
        rw [hs]
      subst hsl
      exact ⟨nm, qn, ns, bs, bm, sn, sub, ab, col, dd, k0, k1, k2, k3, k5, ho, hr⟩
    · cases q
  · cases q
def gaC (K : PySem.W.Frag) : Addr := He.ga K "Contradiction"
def gaS (K : PySem.W.Frag) : Addr := He.ga K "SlashError"
structure CtrF (K : PySem.W.Frag) : Prop where
  oex : OexC K (gaC K)
  iC : PySem.W.findIn K (.ref (gaC K)) "__init__" = some (some (.ref (He.fAd K ctrAt)))
  tI : PySem.W.typeIn K (.ref (He.fAd K ctrAt)) = some (.type "function")
  no : PySem.W.findIn K (.ref (gaC K)) "indices" = some none
  xf : XfC K (gaC K)
theorem ba2 {a b : Bool} (h : (a && b) = true) : a = true ∧ b = true := Bool.and_eq_true_iff.mp h
section
variable {K : PySem.W.Frag} {mg : Str → Option Value}
theorem Txt.ctr (T : Txt K mg) : CtrF K := by
  have h : xcB K = true := (ba2 (ba2 T.x).2).1
  unfold xcB at h
  obtain ⟨h1, h⟩ := ba2 h
  obtain ⟨h2, h⟩ := ba2 h
  obtain ⟨h3, h⟩ := ba2 h
  obtain ⟨h4, h⟩ := ba2 h
  obtain ⟨h5, h⟩ := ba2 h
  obtain ⟨h6, h⟩ := ba2 h
  obtain ⟨h7, h⟩ := ba2 h
  obtain ⟨h8, h9⟩ := ba2 h
  exact ⟨⟨oexB_ok h1, of_decide_eq_true h2, of_decide_eq_true h3, of_decide_eq_true h4, h5⟩, of_decide_eq_true h6, of_decide_eq_true h7, of_decide_eq_true h8, xfB_ok h9⟩
structure SlF (K : PySem.W.Frag) : Prop where
  rd : PySem.W.readsIn K (gaS K) (.type "type") = true
  ga : PySem.W.specialIn K (.ref (gaS K)) "__getattribute__" = some (some (.builtin "type.__getattribute__"))
  at_ : PySem.W.findCls K (.ref (gaS K)) (.type "type") "__init__" = some (.val (.builtin "ValueError.__init__"))
theorem valB_ok {o : Option PySem.W.CFound} (h : valB o = true) : o = some (.val (.builtin "ValueError.__init__")) := by
  unfold valB at h
  split at h
  · rw [eq_of_beq h]
  · cases h
theorem Txt.sl (T : Txt K mg) : SlF K := by
  have h : xsB K = true := (ba2 (ba2 T.x).2).2
  unfold xsB at h
  obtain ⟨h1, h⟩ := ba2 h
  obtain ⟨h2, h3⟩ := ba2 h
  exact ⟨h1, of_decide_eq_true h2, valB_ok h3⟩
end
section
variable {X : Cx} {e : Expr} {es : List Expr} {ta : TA} {p1 p2 pos : Pos}
/-- SlashError.__init__(self, ..): ValueError's, read off an own class -/
theorem pe_cinit {x : Str} {pl : Sem Bool} (S : SlF X.K) (hg : Gl X x) (hm : X.mg x = some (.ref (gaS X.K))) (ha : PA X (e :: es) ta) (hdb : (x == ("__debug__" : Str)) = false := by decide)
    (hc : eval (.Call (.Attribute (.Name x p1) "__init__" p2) (e :: es) [] pos) X.env = (do
      let ov ← eval (.Name x p1) X.env
      standAt p2.atName
      let (f, first) ← holding [ov] (getMethod ov "__init__" pl)
      callWith pos f first (backTo pos (starEach (e :: es) X.env)) (backToKw pos (keywordEach [] X.env))) := by rfl)
    (he : starEach (e :: es) X.env = (false, eval e X.env) :: starEach es X.env := by rfl) (hpl : (backTo pos (starEach es X.env)).any (·.1) = false := by rfl) :
    PE X (.Call (.Attribute (.Name x p1) "__init__" p2) (e :: es) [] pos) (tVeI X.K ta) := by
  refine ⟨fun pins s σ H Q I h => ?_⟩
  refine PySem.W.methodCall_KW (ld_glob I hg hm ?_ hdb) hc
  refine PySem.W.method_cls I.kIn S.ga (PySem.W.cls_value I.kIn S.rd S.at_ (by decide +kernel) ?_)
  show wpAny _ _ (callWith pos (Value.builtin "ValueError.__init__") [] (backTo pos (starEach (e :: es) X.env)) []) _ _ _
  refine PyProof.Rows.callWith_method1 (thn (ha.run pos pins _ σ H _ (I.tok _) h) fun us s1 ⟨vs, H1, I1, r1, a, C, ws, ev, hl, T, ea, q⟩ => ?_) he hpl
  subst ev
  cases r1 with
  | @cons _ u0 _ ur ra rw' =>
    obtain rfl : u0 = Value.ref a := ra
    have hlen : ur.length ≤ sizeLine := by
      rw [← Paired.length rw', sizeLine_eq]
      omega
    exact oinit_ok T I1 ea hlen fun s' J => ⟨.non, H1, J, rfl, q⟩
end
end Sl

end
section
set_option Elab.async false
set_option linter.all false
set_option maxRecDepth 100000
set_option maxHeartbeats 4000000
/-! ### sorted of a tuple of ints -/
namespace SlSort
open PySem PySem.Spec PyProof.Rows Srt SrtO
section
variable {prog : Program} {w : World} {A : Around} {E : Value → Shared → Prop} {s : Shared}
theorem collect_tup {l : Addr} {vs : List Value} {Q : List Value → Shared → Prop} (hl : IsTup s.heap l vs.toArray)
    (h : Q vs { s with heap := (s.heap.push (seqObj "list" #[] 0)).update s.heap.objs.size (Obj.mapSeq (· ++ vs.toArray)) }) (hsz : vs.length ≤ sizeLine) :
    wpAny (model prog w) A (collect (.ref l)) Q E s := by
  obtain ⟨o, ho, hc, n, hd⟩ := id hl
  unfold collect
  refine wpAny_bind (wpAny_runValue (codeAny_builtin entry_proto_collect' ?_))
  show wpAny _ _ (do again (.builtin "list.__iadd__" ⟨[← newList [], .ref l], []⟩)) _ _ s
  refine wpAny_bind (wpAny_newList (wpAny_pure ⟨Code.quiet_builtin _ (by decide +kernel), codeAny_builtin entry_list_iadd' ?_⟩))
  show wpAny _ _ (Builtin.List.listExtendWith (.ref s.heap.objs.size) (.ref l) (.ref s.heap.objs.size)) _ _ { s with heap := s.heap.push (seqObj "list" #[] 0) }
  unfold Builtin.List.listExtendWith
  have ho' : (s.heap.push (seqObj "list" #[] 0)).get? l = some o := Heap.get?_push_of_some _ ho
  refine wpAny_bind (wpAny_typeOf (T := "tuple") ⟨o, ho', hc⟩ ?_)
  have ht : (Value.type "tuple" == Value.type "tuple") = true := by rfl
  rw [if_pos (by rw [ht]; simp)]
  refine wpAny_bind (listItems_at ho' hd ?_)
  refine wpAny_bind (listItems_at (xs := #[]) (n := 0) (Heap.get?_push_size _ rfl) rfl ?_)
  rw [if_neg (by simp)]
  refine wpAny_bind (listUpdate_at (xs := #[]) (n := 0) (Heap.get?_push_size _ rfl) rfl ?_ (Nat.zero_le _) (by show (#[] ++ vs.toArray).size ≤ sizeLine + 1; simp only [Array.size_append, List.size_toArray, List.length_nil]; omega))
  refine wpAny_pure ?_
  show wpAny (model prog w) A (do
      let o ← load s.heap.objs.size
      match o.data with
      | .seq xs _ => pure xs.toList
      | _ => unsupported "internal:collect") Q E { s with heap := (s.heap.push (seqObj "list" #[] 0)).update s.heap.objs.size (Obj.mapSeq (· ++ vs.toArray)) }
  refine wpAny_bind (wpAny_load (get?_update_seq (Heap.get?_push_size _ rfl) _) ?_)
  show wpAny _ _ (pure ((#[] : Array Value) ++ vs.toArray).toList) Q E _
  rw [show ((#[] : Array Value) ++ vs.toArray).toList = vs by simp]
  exact wpAny_pure h
theorem sorted_tup {l : Addr} {vs : List Value} {ltv : Value → Value → Bool} {Q : Value → Shared → Prop} (O : Swo ltv) (hl : IsTup s.heap l vs.toArray) (hz : vs.length ≤ sizeLine)
    (hS : 2 ≤ vs.length → ∀ (h₁ : Heap) (a : Addr), h₁.get? a = some (seqObj "list" vs.toArray 0) → (∀ b o, s.heap.get? b = some o → b ≠ a ∧ h₁.get? b = some o) → SortableO prog w A.in1.in1 { s with heap := h₁ } a vs ltv)
    (h : ∀ out : List Value, Srtd ltv out → Stb ltv out vs → Q (.ref (s.heap.objs.size + 1)) { s with heap := sortedAll s.heap vs out.toArray }) :
    wpAny (model prog w) A (call (.builtin "sorted") [.ref l]) Q E s := by
  refine Calls.call_function_entry kind_sorted plain_sorted entry_sorted (args_sorted1 _) ?_
  unfold Builtin.«sorted»
  refine wpAny_bind (m := checkCount "sorted" 1 1 _) (wpAny_pure ?_)
  refine wpAny_bind (collect_tup hl ?_ hz)
  refine wpAny_bind (wpAny_newList ?_ hz)
  have hsz : ((s.heap.push (seqObj "list" #[] 0)).update s.heap.objs.size (Obj.mapSeq (· ++ vs.toArray))).objs.size = s.heap.objs.size + 1 := by
    rw [Heap.size_update, size_push']
  have hoL : (((s.heap.push (seqObj "list" #[] 0)).update s.heap.objs.size (Obj.mapSeq (· ++ vs.toArray))).push (seqObj "list" vs.toArray 0)).get? (s.heap.objs.size + 1) = some (seqObj "list" vs.toArray 0) := by
    rw [← hsz]; exact Heap.get?_push_size _ rfl
  have keep : ∀ b o, s.heap.get? b = some o → b ≠ s.heap.objs.size + 1 ∧ (((s.heap.push (seqObj "list" #[] 0)).update s.heap.objs.size (Obj.mapSeq (· ++ vs.toArray))).push (seqObj "list" vs.toArray 0)).get? b = some o := fun b o q => by
    have hlt : b < s.heap.objs.size := Heap.lt_size q
    refine ⟨Nat.ne_of_lt (Nat.lt_succ_of_lt hlt), Heap.get?_push_of_some _ ?_⟩
    rw [Heap.get?_update_ne _ _ _ _ (Nat.ne_of_lt hlt)]
    exact Heap.get?_push_of_some _ q
  show wpAny _ _ _ _ _ { s with heap := ((s.heap.push (seqObj "list" #[] 0)).update s.heap.objs.size (Obj.mapSeq (· ++ vs.toArray))).push (seqObj "list" vs.toArray 0) }
  rw [hsz]
  refine wpAny_bind (wpAny_holding (wpAny_call_entry slot_list_sort ⟨_, hoL, rfl⟩ entry_list_sort (list_sort_ord O hoL hz (fun h2 => hS h2 _ _ hoL keep) fun out hs hb => ⟨_, rfl, ?_⟩) (args_list_sort _)))
  exact wpAny_pure ⟨_, rfl, h out hs hb⟩
end
end SlSort
namespace Sl
open PySem PySem.Spec PyProof.Rows L2
def rSortT (K : PySem.W.Frag) : List V → Hp → VK → Prop := fun vs H Q => ∃ (a : Addr) (ns : List Int), vs = [V.ref a] ∧ SqT K H a (ns.map V.int) ∧
  ∀ (ns' : List Int) (p : Addr), ns'.Perm ns → ns'.Pairwise (· ≤ ·) → H p = none → Q (.ref p) (upd H p (.lst (ns'.map V.int)))
section
variable {X : Cx}
theorem cr_sortT : CallR X (.builtin "sorted") (rSortT X.K) := by
  intro pins s σ H vs us Q I r h
  obtain ⟨a, ns, rfl, hs, q⟩ := h
  obtain ⟨its, rv, hl, hz⟩ := I.tuple hs
  rw [Vals.ref1 r]
  have hi := rv.ints
  refine SlSort.sorted_tup SrtO.swo_int hl (by rw [← rv.length]; exact hz) (fun h2 h₁ a' _ _ => SrtO.ints_sortable hi h2) fun out h1 h2 => ?_
  obtain ⟨k1, k2, k3⟩ := SrtO.ints_out hi h1 h2
  obtain ⟨ep, he'⟩ := PyProof.Rows.sortedAll_at s.heap its out.toArray
  have hlen : ((out.map SrtO.iv).map V.int).length ≤ sizeLine := by
    rw [List.length_map, k2.length_eq]
    rw [List.length_map] at hz
    exact hz
  exact ⟨.ref _, upd H (s.heap.objs.size + 1) (.lst ((out.map SrtO.iv).map V.int)), I.laid (t' := s.toks) (fun _ _ => PyProof.Rows.sortedAll_old) (Nat.le_succ _) ⟨hlen, out, ep, vals_of_ints k1, he'⟩, rfl, q _ _ k2 k3 (I.hok.fresh (Nat.le_succ _))⟩
theorem cr_sortTK (K : PySem.W.Frag) (h : X.K = K := by rfl) : CallR X (.builtin "sorted") (rSortT K) := by subst h; exact cr_sortT
end
/-! ### max and min of a list of numbers, with default -/
theorem reads_ints {h : Heap} : ∀ {xs : List Nat} {us : List Value}, Vals (xs.map vN) us → ReadsAll h us (xs.map fun n : Nat => PyData.int (n : Int)) []
  | [], _, r => by
    cases r
    exact .nil
  | x :: xs, _, r => by
    cases r with
    | cons a b =>
      obtain ⟨t, rfl⟩ := a
      have := ReadsAll.cons (as := []) (bs := []) (Reads.int (h := h) (x : Int) t) (reads_ints b)
      exact this
theorem alike_ints (xs : List Nat) : PySem.W.AlikeAll (xs.map fun n : Nat => PyData.int (n : Int)) := by
  refine ⟨fun x hx y hy => ?_, fun x hx => ?_⟩
  · obtain ⟨a, _, rfl⟩ := List.mem_map.mp hx
    obtain ⟨b, _, rfl⟩ := List.mem_map.mp hy
    rfl
  · obtain ⟨a, _, rfl⟩ := List.mem_map.mp hx
    exact fun e => nomatch e
theorem depth_ints : ∀ xs : List Nat, PyData.depthAll (xs.map fun n : Nat => PyData.int (n : Int)) = 0
  | [] => rfl
  | x :: xs => by
    show max 0 (PyData.depthAll _) = 0
    rw [depth_ints xs]; rfl
theorem foldl_max_cast (y : Nat) : ∀ ys : List Nat, (ys.map fun n : Nat => (n : Int)).foldl max (y : Int) = ((ys.foldl max y : Nat) : Int) := by
  intro ys
  induction ys generalizing y with
  | nil => rfl
  | cons x r ih =>
    rw [List.map_cons, List.foldl_cons, List.foldl_cons, ← ih]
    congr 1
    omega
theorem foldl_min_cast (y : Nat) : ∀ ys : List Nat, (ys.map fun n : Nat => (n : Int)).foldl min (y : Int) = ((ys.foldl min y : Nat) : Int) := by
  intro ys
  induction ys generalizing y with
  | nil => rfl
  | cons x r ih =>
    rw [List.map_cons, List.foldl_cons, List.foldl_cons, ← ih]
    congr 1
    omega
def rBst (K : PySem.W.Frag) (f : Nat → Nat → Nat) : List V → List V → Hp → VK → Prop := fun vs zs H Q => ∃ (a : Addr) (ns : List Nat) (d : Nat), vs = [V.ref a] ∧ zs = [vN d] ∧ SqL K H a (ns.map vN) ∧ Q (vN (bst f d ns)) H
section
variable {X : Cx}
theorem cr_maxD (hc : X.calm = true) (hu : X.A.units + 64 < cLine) : CallRK X (.builtin "max") [Str.ofString "default"] (rBst X.K max) := by
  intro pins s σ H vs zs us ws Q I r rz h
  obtain ⟨a, ns, d, rfl, rfl, hs, q⟩ := h
  obtain ⟨its, rv, hl, hz⟩ := I.list hs
  obtain rfl := Vals.ref1 r
  obtain ⟨w1, rfl, t, rfl⟩ := vals1 rz
  refine PySem.W.max_list_default (I.ok.hd hc) hl.isList (xs := ns.map fun n : Nat => PyData.int (n : Int)) (by simpa using reads_ints rv) (alike_ints ns) (by rw [depth_ints]; omega) (fun e h' tk k => ?_) fun y ys i v h' tk bs e hi rd k => ?_
  · have : ns = [] := List.map_eq_nil_iff.mp e
    subst this
    exact ⟨vN d, H, I.kept k, ⟨t, rfl⟩, q⟩
  · cases ns with
    | nil => cases e
    | cons m ms =>
      rw [List.map_cons] at e
      injection e with e1 e2
      subst e1
      subst e2
      have e3 : (ms.map fun n : Nat => PyData.int (n : Int)) = (ms.map fun n : Nat => (n : Int)).map PyData.int := by rw [List.map_map]; rfl
      rw [e3, PySem.W.maxD_ints, foldl_max_cast] at rd
      cases rd with
      | int i' t' => exact ⟨vN (ms.foldl max m), H, I.kept k, ⟨t', rfl⟩, q⟩
theorem cr_minD (hc : X.calm = true) (hu : X.A.units + 64 < cLine) : CallRK X (.builtin "min") [Str.ofString "default"] (rBst X.K min) := by
  intro pins s σ H vs zs us ws Q I r rz h
  obtain ⟨a, ns, d, rfl, rfl, hs, q⟩ := h
  obtain ⟨its, rv, hl, hz⟩ := I.list hs
  obtain rfl := Vals.ref1 r
  obtain ⟨w1, rfl, t, rfl⟩ := vals1 rz
  refine PySem.W.min_list_default (I.ok.hd hc) hl.isList (xs := ns.map fun n : Nat => PyData.int (n : Int)) (by simpa using reads_ints rv) (alike_ints ns) (by rw [depth_ints]; omega) (fun e h' tk k => ?_) fun y ys i v h' tk bs e hi rd k => ?_
  · have : ns = [] := List.map_eq_nil_iff.mp e
    subst this
    exact ⟨vN d, H, I.kept k, ⟨t, rfl⟩, q⟩
  · cases ns with
    | nil => cases e
    | cons m ms =>
      rw [List.map_cons] at e
      injection e with e1 e2
      subst e1
      subst e2
      have e3 : (ms.map fun n : Nat => PyData.int (n : Int)) = (ms.map fun n : Nat => (n : Int)).map PyData.int := by rw [List.map_map]; rfl
      rw [e3, PySem.W.minD_ints, foldl_min_cast] at rd
      cases rd with
      | int i' t' => exact ⟨vN (ms.foldl min m), H, I.kept k, ⟨t', rfl⟩, q⟩
variable (K : PySem.W.Frag)
theorem cr_maxDK (hc : X.calm = true) (hu : X.A.units + 64 < cLine) (h : X.K = K := by rfl) : CallRK X (.builtin "max") [Str.ofString "default"] (rBst K max) := by subst h; exact cr_maxD hc hu
theorem cr_minDK (hc : X.calm = true) (hu : X.A.units + 64 < cLine) (h : X.K = K := by rfl) : CallRK X (.builtin "min") [Str.ofString "default"] (rBst K min) := by subst h; exact cr_minD hc hu
end
end Sl

end
section
set_option Elab.async false
set_option linter.all false
set_option maxRecDepth 100000
set_option maxHeartbeats 4000000
namespace Sl
open PySem PySem.Spec PyProof.Rows L2
/-! ### defs that may raise -/
section
variable {P : Program} {w : World} {K : PySem.W.Frag} {mg : Str → Option Value} {base : Heap}
theorem cl_okX {x qual : Str} {params : Arguments} {body : List Stmt} {scope : Scope} {f : Addr} {fd : FuncData} {N ps : List Str} {k : Nat} {sp : Sp} (F : FunD K x qual params body scope [] [] f fd) (hm : mg x = some (.ref f))
    (hb : ∀ (kV doc pm : Value) (an : Option Addr) (cdv ct : Value) (us : List Value), us.length = ps.length → bindArgs (PySem.W.fnOf x qual params body scope .none kV doc pm an cdv ct) ⟨us, []⟩ = pure (ps.zip us))
    (S : FnScope N ps scope) (len : ∀ vs H Q E, sp vs H Q E → vs.length = ps.length)
    (hbody : ∀ (cdv : Value) (A : Around) (outer : List Env) (s : Shared) (H : Hp) (vs : List V) (Q : VK) (E : XK), Room k (A.deeper (envOfC qual scope s.heap.objs.size f cdv)) → sp vs H Q E →
      ∃ t, PSs (cxOf (L2.CX P w) P w K mg base N qual scope f cdv A outer s H E) body t ∧ t { nx := fun _ H' => Q .non H', rt := Q } (start N vs) H) : Cl P w K mg base (L2.CX P w) x ps (k + 1) [] sp :=
  ⟨f, fd, [], hm, F.kp, F.bindsN hb, .nil, F.ok S len hbody⟩
theorem clm_okX {x m qual : Str} {params : Arguments} {body : List Stmt} {scope : Scope} {fd : FuncData} {N ps : List Str} {k : Nat} {sp : Sp} (F : FunD K m qual params body scope [] [] (He.fAd K (x, some m)) fd) (c : (He.Fa.cls x).ok K = true) (hm : (He.Fa.meth x m).ok K = true)
    (hb : ∀ (kV doc pm : Value) (an : Option Addr) (cdv ct : Value) (us : List Value), us.length = ps.length → bindArgs (PySem.W.fnOf m qual params body scope .none kV doc pm an cdv ct) ⟨us, []⟩ = pure (ps.zip us))
    (S : FnScope N ps scope) (len : ∀ vs H Q E, sp vs H Q E → vs.length = ps.length)
    (hbody : ∀ (cdv : Value) (A : Around) (outer : List Env) (s : Shared) (H : Hp) (vs : List V) (Q : VK) (E : XK), Room k (A.deeper (envOfC qual scope s.heap.objs.size (He.fAd K (x, some m)) cdv)) → sp vs H Q E →
      ∃ t, PSs (cxOf (L2.CX P w) P w K mg base N qual scope (He.fAd K (x, some m)) cdv A outer s H E) body t ∧ t { nx := fun _ H' => Q .non H', rt := Q } (start N vs) H) : ClM P w K mg base (L2.CX P w) x m ps (k + 1) sp :=
  ⟨_, fd, He.cls_ok c, He.meth_ok hm, F.bindsN hb, F.ok S len hbody⟩
variable {X : Cx} {x m : Str} {o e : Expr} {es : List Expr} {ta : TE} {t : TA} {p pos apos : Pos} {ps : List Str} {k : Nat} {dvs : List V} {sp : Sp} {W : WX} {E : XK}
theorem passX0 : Passes (L2.CX X.prog X.w) X E0 := fun _ _ _ _ _ _ _ h => by
  obtain ⟨_, _, _, _, _, _, _, _, _, _, _, _, h⟩ := h
  exact h.elim
/-- a call that may raise, and here does not -/
theorem pe_clX (C : Cl X.prog X.w X.K X.mg X.base (L2.CX X.prog X.w) x ps k dvs sp) (hr : Room k X.A) (ha : PA X (e :: es) t) (hg : Gl X x := by rfl) (hdb : (x == ("__debug__" : Str)) = false := by decide)
    (he : starEach (e :: es) X.env = (false, eval e X.env) :: starEach es X.env := by rfl) (hpl : (backTo pos (starEach es X.env)).any (·.1) = false := by rfl) : PE X (.Call (.Name x p) (e :: es) [] pos) (tCall sp dvs E0 t) := by
  obtain ⟨f, fd, ds, hm, hk, hb, hd, F⟩ := C.ex
  exact pe_call F hr hg hm hk hb hd passX0 ha hdb he hpl
variable (K)
theorem pe_clm0X {pl : Sem Bool} (C : ClM X.prog X.w X.K X.mg X.base (L2.CX X.prog X.w) x m ps k sp) (hr : Room k X.A) (ho : PE X o ta) (h : X.K = K := by rfl)
    (ht : eval (.Call (.Attribute o m apos) [] [] pos) X.env = (do
      let ov ← eval o X.env
      standAt apos.atName
      let (f, first) ← holding [ov] (getMethod ov m pl)
      callWith pos f first (backTo pos (starEach [] X.env)) (backToKw pos (keywordEach [] X.env))) := by rfl) : PE X (.Call (.Attribute o m apos) [] [] pos) (tMeth (He.ga K x) m sp [] E0 ta tNil) := by
  subst h
  obtain ⟨f, fd, c, hm, hb, F⟩ := C.ex
  exact pe_meth0 ho c hm F hr hb .nil passX0 ht
theorem pe_clm0E {pl : Sem Bool} (C : ClM X.prog X.w X.K X.mg X.base (L2.CX X.prog X.w) x m ps k sp) (hr : Room k X.A) (ho : PE X o ta) (tk : Takes X W) (hW : ∀ cls d σ H, E cls d H → W cls d σ H) (h : X.K = K := by rfl)
    (ht : eval (.Call (.Attribute o m apos) [] [] pos) X.env = (do
      let ov ← eval o X.env
      standAt apos.atName
      let (f, first) ← holding [ov] (getMethod ov m pl)
      callWith pos f first (backTo pos (starEach [] X.env)) (backToKw pos (keywordEach [] X.env))) := by rfl) : PE X (.Call (.Attribute o m apos) [] [] pos) (tMeth (He.ga K x) m sp [] E ta tNil) := by
  subst h
  obtain ⟨f, fd, c, hm, hb, F⟩ := C.ex
  exact pe_meth0 ho c hm F hr hb .nil (passes_call tk hW) ht
variable {K}
/-- a call within a try -/
theorem pe_clS {W : WX} (C : Cl X.prog X.w X.K X.mg X.base (L2.CX X.prog X.w) x ps k [] sp) (hr : Room k X.A) (tk : Takes X W) (ha : PA X (e :: es) t) (hg : Gl X x := by rfl) (hdb : (x == ("__debug__" : Str)) = false := by decide)
    (he : starEach (e :: es) X.env = (false, eval e X.env) :: starEach es X.env := by rfl) (hpl : (backTo pos (starEach es X.env)).any (·.1) = false := by rfl) : PE X (.Call (.Name x p) (e :: es) [] pos) (tCallS sp (WE W) t) := by
  obtain ⟨f, fd, ds, hm, hk, hb, hd, F⟩ := C.ex
  cases hd
  exact pe_callS F hr hg hm hk hb (fun σ => passAt tk σ) ha hdb he hpl
def gaN (K : PySem.W.Frag) : Addr := He.ga K "NoMove"
/-- raise NoMove('..') -/
theorem ps_nomove {str : Str} {j : Nat} {p p2 pos pos2 : Pos} (T : Txt X.K X.mg) (tk : Takes X W) (hc : X.calm = true := by rfl) (hg : Gl X "NoMove" := by rfl) :
    PS X (.Raise (some (.Call (.Name "NoMove" p) [.Constant (.str str) j p2] [] pos)) none pos2) (fun _ σ H => W (.ref (gaN X.K)) none σ H) := by
  obtain ⟨q, kC, sub, ty⟩ := He.exc_ok (T.fact 137 (f := .exc "NoMove") rfl)
  exact ps_raise hc tk (pmk_own PySem.F.excBase_ValueError q (T.glo 78) kC (raises_own sub ty) hg)
/-! ### Contradiction(indices) -/
def sInd : Str := "indices"
def sp_ctrInit : Sp := fun vs H Q _ => ∃ (K : PySem.W.Frag) (a C : Addr) (v : V), vs = [.ref a, v] ∧ H a = some (exo a C none) ∧ ∀ dx, H dx = none → dx ≠ a → Q .non (upd (upd H dx (exd dx [(sInd, v)])) a (exo a C (some dx)))
end
end Sl

end
section
set_option Elab.async false
set_option linter.all false
set_option maxRecDepth 100000
set_option maxHeartbeats 4000000
namespace Sl
open PySem PySem.Spec PyProof.Rows L2
section
variable {P : Program} {w : World} {K : PySem.W.Frag} {mg : Str → Option Value} {base : Heap}
/-! ### lowered -/
def sp_lowered (K : PySem.W.Frag) : Sp := fun vs H Q E => ∃ (h : Addr) (U : List Un) (M : Nat) (cs : List Ch) (n : Nat), vs = [.ref h, vN n] ∧ LT H h (enB (rn yes cs)) ∧ UB U ∧ HB U M cs ∧ n < cs.length ∧ (∀ H', Same H H' → E (.ref (gaN K)) none H') ∧ ∀ H' p ds, Same H H' → H p = none → HB U M ds → LT H' p (enB (rn yes ds)) → Q (.ref p) H'
abbrev n_lowered : List Str := ["history", "number", "found"]
theorem sc_lowered : FnScope n_lowered ["history", "number"] (defScope s_lowered) := ⟨rfl, rfl, rfl, by decide +kernel, rfl, by decide +kernel, by decide +kernel⟩
theorem ok_lowered (T : Txt K mg) : Cl P w K mg base (L2.CX P w) "lowered" ["history", "number"] 8 [] (sp_lowered K) := by
  obtain ⟨fd, F⟩ := T.def_ 50 (d := d_lowered) rfl
  have C_lowered_by := ok_lowered_by (P := P) (w := w) (base := base) T
  have C_checked_number := ok_checked_number (P := P) (w := w) (base := base) T
  refine cl_okX F (T.glo 47) (fun _ _ _ _ _ _ us hl => match us, hl with | [_, _], _ => rfl) sc_lowered (fun vs H Q E h => ?_) (fun cdv A outer s H vs Q E hr h => ?_)
  · obtain ⟨a, U, M, cs, n, rfl, _⟩ := h
    rfl
  · obtain ⟨hh, U, M, cs, n, rfl, h1, o, hc, hn, k0, k1⟩ := h
    refine ⟨_, (pss_cons (ps_set (i := 2) sc_lowered.nd rfl (Or.inl rfl) (pe_cl C_lowered_by (hr.mono (by decide)) (pa_cons (pe_cl C_checked_number (hr.mono (by decide)) (pa_cons (pv 0) (pa_cons (pv 1) pa_nil))) (pa_cons (pv 1) pa_nil))))
      (pss_cons (ps_if (pt_cmpR op_isN (pv 2) pe_non (nomark _))
        (pss_one (ps_nomove T (takes_of rfl rfl rfl rfl)))
        pss_nil)
      (pss_one (ps_ret (pv 2))))), ?_⟩
    refine ⟨_, rfl, _, rfl, hh, U, M, cs, n, rfl, h1, o, hc, hn, fun H2 p s2 np h2 => ?_⟩
    refine ⟨_, rfl, p, U, M, cs, n, rfl, h2, o, hc, hn, fun H3 s3 => ?_, fun H3 q ds s3 nq hd h3 => ?_⟩
    · refine ⟨_, rfl, rfl, true, rfl, iteT ?_⟩
      exact k0 _ (s2.trans s3)
    · refine ⟨_, rfl, rfl, false, rfl, iteF ?_⟩
      exact ⟨_, rfl, k1 H3 q ds (s2.trans s3) (s2.free nq) hd h3⟩
/-! ### Contradiction.__init__ -/
def n_ctr : List Str := ["self", "indices"]
theorem sc_ctr : FnScope n_ctr ["self", "indices"] (defScope s_Contradiction_init) := ⟨rfl, rfl, rfl, by decide +kernel, rfl, by decide +kernel, by decide +kernel⟩
def sp_ctr (K : PySem.W.Frag) : Sp := fun vs H Q _ => ∃ (a : Addr) (v : V), vs = [.ref a, v] ∧ H a = some (exo a (gaC K) none) ∧ ∀ dx, H dx = none → dx ≠ a → Q .non (upd (upd H dx (exd dx [(sInd, v)])) a (exo a (gaC K) (some dx)))
theorem ok_ctr (T : Txt K mg) : ∃ fd : FuncData, FnOk P w K mg base CX0 1 (He.fAd K ctrAt) fd ["self", "indices"] (sp_ctr K) ∧ Binds K fd ["self", "indices"] [] := by
  obtain ⟨fd, F⟩ := T.def_ 0 (d := d_Contradiction_init) rfl
  refine ⟨fd, F.ok (k := 0) sc_ctr (fun vs H Q E h => ?_) (fun cdv A outer s H vs Q E hr h => ?_), F.bindsN (fun _ _ _ _ _ _ us hl => match us, hl with | [_, _], _ => rfl)⟩
  · obtain ⟨a, v, rfl, _⟩ := h
    rfl
  · obtain ⟨a, v, rfl, ha, k⟩ := h
    refine ⟨_, PSs.nox (pss_cons (ps_expr (pe_cinit T.sl rfl (T.glo 80) (pa_cons (pv 0) (pa_cons pe_str pa_nil)))) (pss_one (ps_ost (pv 0) (pv 1)))), ?_⟩
    refine ⟨_, rfl, a, gaC K, _, rfl, by decide, T.ctr.oex, ha, ?_⟩
    exact ⟨_, rfl, _, rfl, a, gaC K, rfl, T.ctr.oex, T.ctr.no, .inl ⟨ha, k⟩⟩
end
/-- raise Contradiction(e) -/
theorem ps_ctr {X : Cx} {W : WX} {e : Expr} {te : TE} {p pos pos2 : Pos} (T : Txt X.K X.mg) (hr : Room 2 X.A) (tk : Takes X W) (he : PE X e te) (hc : X.calm = true := by rfl) (hg : Gl X "Contradiction" := by rfl)
    (hs : starEach (e :: []) X.env = (false, eval e X.env) :: starEach [] X.env := by rfl) (hpl : (backTo pos (starEach [] X.env)).any (·.1) = false := by rfl) :
    PS X (.Raise (some (.Call (.Name "Contradiction" p) [e] [] pos)) none pos2) (fun _ σ H => tMkO (gaC X.K) (sp_ctr X.K) [] (tCons te tNil) σ H fun cls d H' => W cls d σ H') := by
  obtain ⟨fd, F, hb⟩ := ok_ctr (P := X.prog) (w := X.w) (base := X.base) T
  exact ps_raise hc tk (pmk_oex T.ctr.oex T.ctr.iC T.ctr.tI F hr hb .nil pass0 hg (T.glo 79) (pa_cons he pa_nil hs) (he := hs) (hpl := hpl))
end Sl


end
section
set_option Elab.async false
set_option linter.all false
set_option maxRecDepth 100000
set_option maxHeartbeats 4000000
namespace Sl
open PySem PySem.Spec PyProof.Rows L2
/-! ### lists of anything -/
def GL {α : Type} (R : Hp → V → α → Prop) (H : Hp) (a : Addr) (ps : List α) : Prop := ∃ xs, H a = some (.lst xs) ∧ Paired (R H) xs ps
/-- what stands under growth, and under change of a list -/
structure Stab {α : Type} (R : Hp → V → α → Prop) : Prop where
  same : ∀ {H H' : Hp} {x : V} {p : α}, Same H H' → R H x p → R H' x p
  mod : ∀ {H H' : Hp} {l : Addr} {ys : List V} {x : V} {p : α}, Mod l H H' → H l = some (.lst ys) → R H x p → R H' x p
section
variable {α : Type} {R : Hp → V → α → Prop} {H H' : Hp} {a l : Addr} {ps : List α}
theorem GL.same (S : Stab R) (h : GL R H a ps) (s : Same H H') : GL R H' a ps := by
  obtain ⟨xs, h1, h2⟩ := h
  exact ⟨xs, s _ _ h1, L2.Paired.mapP h2 fun _ _ => S.same s⟩
theorem GL.mod (S : Stab R) {ys : List V} (h : GL R H a ps) (ne : a ≠ l) (hl : H l = some (.lst ys)) (m : Mod l H H') : GL R H' a ps := by
  obtain ⟨xs, h1, h2⟩ := h
  exact ⟨xs, m _ _ ne h1, L2.Paired.mapP h2 fun _ _ => S.mod m hl⟩
theorem GL.lst (h : GL R H a ps) : ∃ xs, H a = some (.lst xs) ∧ xs.length = ps.length := by
  obtain ⟨xs, h1, h2⟩ := h
  exact ⟨xs, h1, Paired.length h2⟩
theorem GL.nil (h : H a = some (.lst [])) : GL R H a [] := ⟨[], h, .nil⟩
theorem GL.row {xs : List V} {i : Nat} {x : V} (h : GL R H a ps) (hx : H a = some (.lst xs)) (e : xs[i]? = some x) : ∃ p, ps[i]? = some p ∧ R H x p := by
  obtain ⟨ys, h1, h2⟩ := h
  rw [hx] at h1
  cases h1
  exact Paired.get1 h2 e
theorem GL.get {i : Nat} {p : α} (h : GL R H a ps) (e : ps[i]? = some p) : ∃ xs x, H a = some (.lst xs) ∧ xs[i]? = some x ∧ R H x p := by
  obtain ⟨ys, h1, h2⟩ := h
  obtain ⟨x, e1, e2⟩ := Paired.get2 h2 e
  exact ⟨ys, x, h1, e1, e2⟩
theorem GL.push (S : Stab R) {xs : List V} {x : V} {p : α} (h : GL R H l ps) (hl : H l = some (.lst xs)) (hx : R H x p) : GL R (L2.upd H l (.lst (xs ++ [x]))) l (ps ++ [p]) := by
  obtain ⟨ys, h1, h2⟩ := h
  rw [hl] at h1
  cases h1
  exact ⟨_, upd_same, Paired.app (L2.Paired.mapP h2 fun _ _ => S.mod Mod.upd hl) (.cons (S.mod Mod.upd hl hx) .nil)⟩
end
theorem stabRow : Stab RowV := ⟨fun s h => RowV.same s h, fun m hl h => RowV.mod m hl h⟩
theorem ne_list {H : Hp} {l b : Addr} {ys : List V} {o : HO} (h1 : H l = some (.lst ys)) (h2 : H b = some o) (d : HO.lst ys ≠ o) : b ≠ l := by
  rintro rfl
  rw [h1] at h2
  exact d (Option.some.inj h2)
/-! ### fields -/
theorem putF_len (f : Str) (v : V) : ∀ fs : List (Str × V), (putF f v fs).length ≤ fs.length + 1
  | [] => Nat.le_refl _
  | (g, x) :: r => by
    show (if g = f then (g, v) :: r else (g, x) :: putF f v r).length ≤ _
    split
    · simp
    · have := putF_len f v r
      rw [List.length_cons, List.length_cons]
      omega
theorem lk_s (f : Str) (v : V) (fs : List (Str × V)) : (putF f v fs).lookup f = some v := by rw [lookup_putF, if_pos rfl]
theorem lk_n {f g : Str} (v : V) (fs : List (Str × V)) (h : g ≠ f) : (putF f v fs).lookup g = fs.lookup g := by rw [lookup_putF, if_neg h]
end Sl

end
section
set_option Elab.async false
set_option linter.all false
set_option maxRecDepth 100000
set_option maxHeartbeats 4000000
namespace Sl
open PySem PySem.Spec PyProof.Rows L2
/-! ### Part -/
def gaP (K : PySem.W.Frag) : Addr := He.ga K "Part"
def optS : Option Sy → V
  | none => .non
  | some s => .str s
def ptA (p : PtD) : List V := [vN p.1, optS p.2.1, vN p.2.2.1, .bl p.2.2.2.1, vN p.2.2.2.2]
structure PtFs (fs : List (Str × V)) (p : PtD) : Prop where
  a : fs.lookup ("start" : Str) = some (vN p.1)
  b : fs.lookup ("symbol" : Str) = some (optS p.2.1)
  c : fs.lookup ("size" : Str) = some (vN p.2.2.1)
  d : fs.lookup ("quoted" : Str) = some (.bl p.2.2.2.1)
  e : fs.lookup ("many" : Str) = some (vN p.2.2.2.2)
  g : fs.lookup ("is_group" : Str) = none
def PtV (K : PySem.W.Frag) (H : Hp) (x : V) (p : PtD) : Prop := ∃ a dx fs, x = .ref a ∧ H a = some (.ins (gaP K) dx fs) ∧ PtFs fs p
theorem stabPt (K : PySem.W.Frag) : Stab (PtV K) where
  same := fun s ⟨a, dx, fs, e, h, f⟩ => ⟨a, dx, fs, e, s _ _ h, f⟩
  mod := fun m hl ⟨a, dx, fs, e, h, f⟩ => ⟨a, dx, fs, e, m _ _ (ne_list hl h (by intro z; cases z)) h, f⟩
abbrev PL (K : PySem.W.Frag) := GL (PtV K)
section
variable {P : Program} {w : World} {K : PySem.W.Frag} {mg : Str → Option Value} {base : Heap}
def sp_Part_init (K : PySem.W.Frag) : Sp := fun vs H Q _ => ∃ (x dx : Addr) (p : PtD), vs = .ref x :: ptA p ∧ H x = some (.ins (gaP K) dx []) ∧ ∀ H' fs, Mod x H H' → H' x = some (.ins (gaP K) dx fs) → PtFs fs p → Q .non H'
abbrev n_Part_init : List Str := ["self", "start", "symbol", "size", "quoted", "many"]
theorem sc_Part_init : FnScope n_Part_init ["self", "start", "symbol", "size", "quoted", "many"] (defScope s_Part_init) := ⟨rfl, rfl, rfl, by decide +kernel, rfl, by decide +kernel, by decide +kernel⟩
theorem ok_Part_init (T : Txt K mg) : ClK P w K mg base CX0 "Part" ["self", "start", "symbol", "size", "quoted", "many"] 1 (sp_Part_init K) := by
  obtain ⟨fd, F⟩ := T.def_ 12 (d := d_Part_init) rfl
  refine clk_ok (x := "Part") F (T.fact 109) (T.glo 74) (fun _ _ _ _ _ _ us hl => match us, hl with | [_, _, _, _, _, _], _ => rfl) sc_Part_init (fun vs H Q E h => ?_) (fun cdv A outer s H vs Q E hr h => ?_)
  · obtain ⟨x, dx, p, rfl, _⟩ := h
    rfl
  · obtain ⟨x, dx, p, rfl, hx, k⟩ := h
    refine ⟨_, (pss_cons (ps_fld (pv 0) (pv 1) rfl)
      (pss_cons (ps_fld (pv 0) (pv 2) rfl)
      (pss_cons (ps_fld (pv 0) (pv 3) rfl)
      (pss_cons (ps_fld (pv 0) (pv 4) rfl)
      (pss_one (ps_fld (pv 0) (pv 5) rfl)))))), ?_⟩
    have c := He.cls_ok (T.fact 108 (f := .cls "Part") rfl)
    refine ⟨_, rfl, _, rfl, x, gaP K, dx, _, rfl, hx, c, He.noat_ok (T.fact 110 (f := .noat "Part" "start") rfl), by decide, ?_⟩
    refine ⟨_, rfl, _, rfl, x, gaP K, dx, _, rfl, upd_same, c, He.noat_ok (T.fact 111 (f := .noat "Part" "symbol") rfl), Nat.lt_of_le_of_lt (putF_len _ _ _) (by decide), ?_⟩
    have l1 := putF_len ("start" : Str) (vN p.1) []
    have l2 := putF_len ("symbol" : Str) (optS p.2.1) (putF "start" (vN p.1) [])
    have l3 := putF_len ("size" : Str) (vN p.2.2.1) (putF "symbol" (optS p.2.1) (putF "start" (vN p.1) []))
    have l4 := putF_len ("quoted" : Str) (.bl p.2.2.2.1) (putF "size" (vN p.2.2.1) (putF "symbol" (optS p.2.1) (putF "start" (vN p.1) [])))
    have l0 : ([] : List (Str × V)).length = 0 := rfl
    refine ⟨_, rfl, _, rfl, x, gaP K, dx, _, rfl, upd_same, c, He.noat_ok (T.fact 112 (f := .noat "Part" "size") rfl), Nat.lt_of_le_of_lt l2 (by omega), ?_⟩
    refine ⟨_, rfl, _, rfl, x, gaP K, dx, _, rfl, upd_same, c, He.noat_ok (T.fact 113 (f := .noat "Part" "quoted") rfl), Nat.lt_of_le_of_lt l3 (by omega), ?_⟩
    refine ⟨_, rfl, _, rfl, x, gaP K, dx, _, rfl, upd_same, c, He.noat_ok (T.fact 114 (f := .noat "Part" "many") rfl), Nat.lt_of_le_of_lt l4 (by omega), ?_⟩
    refine k _ (putF "many" (vN p.2.2.2.2) (putF "quoted" (.bl p.2.2.2.1) (putF "size" (vN p.2.2.1) (putF "symbol" (optS p.2.1) (putF "start" (vN p.1) []))))) ((((Mod.upd.trans Mod.upd).trans Mod.upd).trans Mod.upd).trans Mod.upd) upd_same ⟨?_, ?_, ?_, ?_, ?_, ?_⟩
    · rw [lk_n _ _ (by decide), lk_n _ _ (by decide), lk_n _ _ (by decide), lk_n _ _ (by decide), lk_s]
    · rw [lk_n _ _ (by decide), lk_n _ _ (by decide), lk_n _ _ (by decide), lk_s]
    · rw [lk_n _ _ (by decide), lk_n _ _ (by decide), lk_s]
    · rw [lk_n _ _ (by decide), lk_s]
    · rw [lk_s]
    · rw [lk_n _ _ (by decide), lk_n _ _ (by decide), lk_n _ _ (by decide), lk_n _ _ (by decide), lk_n _ _ (by decide)]; rfl
def sp_Part_is_group (K : PySem.W.Frag) : Sp := fun vs H Q _ => ∃ (x : V) (p : PtD), vs = [x] ∧ PtV K H x p ∧ Q (.bl p.2.1.isNone) H
abbrev n_Part_is_group : List Str := ["self"]
theorem sc_Part_is_group : FnScope n_Part_is_group ["self"] (defScope s_Part_is_group) := ⟨rfl, rfl, rfl, by decide +kernel, rfl, by decide +kernel, by decide +kernel⟩
theorem ok_Part_is_group (T : Txt K mg) : ClM P w K mg base CX0 "Part" "is_group" ["self"] 1 (sp_Part_is_group K) := by
  obtain ⟨fd, F⟩ := T.def_ 13 (d := d_Part_is_group) rfl
  refine clm_ok (x := "Part") F (T.fact 108) (T.fact 115) (fun _ _ _ _ _ _ us hl => match us, hl with | [_], _ => rfl) sc_Part_is_group (fun vs H Q E h => ?_) (fun cdv A outer s H vs Q E hr h => ?_)
  · obtain ⟨x, p, rfl, _⟩ := h
    rfl
  · obtain ⟨x, p, rfl, ⟨a, dx, fs, rfl, ha, hf⟩, k⟩ := h
    refine ⟨_, (pss_one (ps_ret (pe_cmpR op_isN (pe_fldK K (pv 0)) pe_non (nomark _)))), ?_⟩
    have c := He.cls_ok (T.fact 108 (f := .cls "Part") rfl)
    refine ⟨_, rfl, a, gaP K, dx, fs, _, rfl, ha, c, He.noat_ok (T.fact 111 (f := .noat "Part" "symbol") rfl), hf.b, rfl, ?_⟩
    have e : decide (optS p.2.1 = V.non) = p.2.1.isNone := by
      cases p.2.1 with
      | none => rfl
      | some s => exact decide_eq_false (by intro z; cases z)
    show Q (.bl (decide (optS p.2.1 = V.non))) H
    rw [e]; exact k
/-- found.append(Part(..)) -/
theorem part_push {D : Ends} {σ : L2.St} {H : Hp} {l : Addr} {fs : List PtD} {t : TA} (p : PtD) (hσ : σ[1]? = some (some (.ref l))) (hl : PL K H l fs) (hz : fs.length ≤ 900000) (ht : ∀ Q : List V → Hp → Prop, Q (ptA p) H → t σ H Q)
    (k : ∀ H', Mod l H H' → PL K H' l (fs ++ [p]) → D.nx σ H') : tDrop (tBM K "list" rAppend (tVar 1) (tCons (tMake (gaP K) (sp_Part_init K) [] E0 t) tNil)) D σ H := by
  obtain ⟨xs, hxs, hxl⟩ := hl.lst
  refine ⟨_, hσ, .inl ⟨rfl, _, SqL.h hxs⟩, ht _ fun x dx nx nd ne => ?_⟩
  have sd : Same H (upd H dx (.own x)) := Same.new nd
  have s1 : Same H (upd (upd H dx (.own x)) x (.ins (gaP K) dx [])) := Same.mut sd nx
  refine ⟨x, dx, p, by rw [List.append_nil], upd_same, fun H' f m hf o => ⟨rfl, ?_⟩⟩
  have s2 : Same H H' := m.same s1 nx
  have hxs2 := s2 _ _ hxs
  refine ⟨l, xs, _, rfl, rfl, hxs2, by rw [hxl]; exact slt (by omega), ?_⟩
  exact k _ ((Mod.of_same s2).trans Mod.upd) ((hl.same (stabPt K) s2).push (stabPt K) hxs2 ⟨x, dx, f, rfl, hf, o⟩)
theorem one_if (p : Prop) [Decidable p] (x : PtD) : (if p then [x] else []).length ≤ 1 := by split <;> simp
theorem if_push {D : Ends} {σ : L2.St} {H : Hp} {l : Addr} {fs : List PtD} {t : TA} {tt : TT} (p : PtD) (b : Bool) (hσ : σ[1]? = some (some (.ref l))) (hl : PL K H l fs) (hz : fs.length ≤ 900000) (htt : ∀ Q : Bool → Hp → Prop, Q b H → tt σ H Q) (ht : b = true → ∀ Q : List V → Hp → Prop, Q (ptA p) H → t σ H Q)
    (k : ∀ H', Mod l H H' → PL K H' l (fs ++ if b = true then [p] else []) → D.nx σ H') : tIfS tt (tDrop (tBM K "list" rAppend (tVar 1) (tCons (tMake (gaP K) (sp_Part_init K) [] E0 t) tNil))) tNext D σ H := by
  refine htt _ ?_
  cases b with
  | true => exact iteT (part_push p hσ hl hz (ht rfl) k)
  | false => exact iteF (k H Mod.refl (by rw [if_neg (by decide), List.append_nil]; exact hl))
/-! ### parts_of -/
def sp_parts_of (K : PySem.W.Frag) : Sp := fun vs H Q _ => ∃ (a : Addr) (rs : Rn), vs = [.ref a] ∧ LT H a (enR rs) ∧ rs.length ≤ 100000 ∧ ∀ H' p, Same H H' → H p = none → PL K H' p (ptM 0 0 rs) → (ptM 0 0 rs).length ≤ 500000 → Q (.ref p) H'
abbrev n_parts_of : List Str := ["runs", "found", "start", "slashes", "symbol", "count", "joined"]
theorem sc_parts_of : FnScope n_parts_of ["runs"] (defScope s_parts_of) := ⟨rfl, rfl, rfl, by decide +kernel, rfl, by decide +kernel, by decide +kernel⟩
theorem ok_parts_of (T : Txt K mg) : Cl P w K mg base CX0 "parts_of" ["runs"] 3 [] (sp_parts_of K) := by
  obtain ⟨fd, F⟩ := T.def_ 14 (d := d_parts_of) rfl
  have K_Part := ok_Part_init (P := P) (w := w) (base := base) T
  refine cl_ok F (T.glo 11) (fun _ _ _ _ _ _ us hl => match us, hl with | [_], _ => rfl) sc_parts_of (fun vs H Q E h => ?_) (fun cdv A outer s H vs Q E hr h => ?_)
  · obtain ⟨a, rs, rfl, _⟩ := h
    rfl
  · obtain ⟨a, rs, rfl, ha, hz, k⟩ := h
    refine ⟨_, (pss_cons (ps_set (i := 1) sc_parts_of.nd rfl (Or.inl rfl) (pe_lst pa_nil))
      (pss_cons (ps_set (i := 2) sc_parts_of.nd rfl (Or.inl rfl) pe_int)
      (pss_cons (ps_set (i := 3) sc_parts_of.nd rfl (Or.inl rfl) pe_int)
      (pss_cons (ps_for PassesOwn.never rfl (pi_list (pe_op op_cat (pv 0) (pe_lst (pa_cons (pe_tup (pa_cons pe_non (pa_cons pe_int pa_nil))) pa_nil)))) (pg_tup rfl (pgs_cons (pg_name (i := 4) sc_parts_of.nd rfl (Or.inl rfl)) (pgs_cons (pg_name (i := 5) sc_parts_of.nd rfl (Or.inl rfl)) pgs_nil)))
        (pss_cons (ps_if (pt_cmpR op_eq (pv 4) (pe_gs (T.str 104)) (nomark _))
          (pss_one (ps_set (i := 3) sc_parts_of.nd rfl (Or.inl rfl) (pv 5)))
          (pss_one (ps_if (pt_cmpR op_eq (pv 4) (pe_gs (T.str 105)) (nomark _))
            (pss_cons (ps_set (i := 6) sc_parts_of.nd rfl (Or.inl rfl) (pe_callTy call_int1 (by rfl) (T.free 85) bt_int (pa_cons (pe_cmpR oGt (pv 3) pe_int (nomark _)) pa_nil)))
            (pss_cons (ps_if (pt_cmpR oEq (pv 6) pe_int (nomark _))
              (pss_one (ps_expr (pe_bm PySem.F.plainAttrs_list PySem.F.slot_list_append PySem.F.type_list_append mt_append (pv 1) (pa_cons (pe_clk K_Part (hr.mono (by decide)) (pa_cons (pe_op oSub (pv 2) (pv 3)) (pa_cons pe_non (pa_cons (pe_op oAdd (pv 3) pe_int) (pa_cons pe_bl (pa_cons pe_int pa_nil)))))) pa_nil))))
              pss_nil)
            (pss_cons (ps_if (pt_cmpR oGt (pv 5) (pv 6) (nomark _))
              (pss_one (ps_expr (pe_bm PySem.F.plainAttrs_list PySem.F.slot_list_append PySem.F.type_list_append mt_append (pv 1) (pa_cons (pe_clk K_Part (hr.mono (by decide)) (pa_cons (pe_op oAdd (pv 2) (pv 6)) (pa_cons pe_non (pa_cons pe_int (pa_cons pe_bl (pa_cons (pe_op oSub (pv 5) (pv 6)) pa_nil)))))) pa_nil))))
              pss_nil)
            (pss_one (ps_set (i := 3) sc_parts_of.nd rfl (Or.inl rfl) pe_int)))))
            (pss_cons (ps_if (pt_cmpR oGt (pv 3) pe_int (nomark _))
              (pss_one (ps_expr (pe_bm PySem.F.plainAttrs_list PySem.F.slot_list_append PySem.F.type_list_append mt_append (pv 1) (pa_cons (pe_clk K_Part (hr.mono (by decide)) (pa_cons (pe_op oSub (pv 2) (pv 3)) (pa_cons pe_non (pa_cons (pv 3) (pa_cons pe_bl (pa_cons pe_int pa_nil)))))) pa_nil))))
              pss_nil)
            (pss_cons (ps_if (pt_cmpR op_notN (pv 4) pe_non (nomark _))
              (pss_one (ps_expr (pe_bm PySem.F.plainAttrs_list PySem.F.slot_list_append PySem.F.type_list_append mt_append (pv 1) (pa_cons (pe_clk K_Part (hr.mono (by decide)) (pa_cons (pv 2) (pa_cons (pv 4) (pa_cons (pv 5) (pa_cons pe_bl (pa_cons pe_int pa_nil)))))) pa_nil))))
              pss_nil)
            (pss_one (ps_set (i := 3) sc_parts_of.nd rfl (Or.inl rfl) pe_int)))))))
        (pss_one (ps_aug (i := 2) sc_parts_of.nd rfl (Or.inl rfl) (pv 5) iAdd))))
      (pss_one (ps_ret (pv 1))))))), ?_⟩
    refine ⟨z0, fun l nl => ⟨_, rfl, ?_⟩⟩
    have s1 : Same H (upd H l (.lst [])) := Same.new nl
    refine ⟨z2, fun t nt => ⟨z1, fun q nq => ?_⟩⟩
    have s2 : Same (upd H l (.lst [])) (upd (upd H l (.lst [])) t (.tup [.non, .int 0])) := Same.new nt
    have s3 : Same (upd (upd H l (.lst [])) t (.tup [.non, .int 0])) (upd (upd (upd H l (.lst [])) t (.tup [.non, .int 0])) q (.lst [.ref t])) := Same.new nq
    have h3 := ((ha.same s1).same s2).same s3
    have hq : LT (upd (upd (upd H l (.lst [])) t (.tup [.non, .int 0])) q (.lst [.ref t])) q [[V.non, vN 0]] := ⟨_, upd_same, .cons ⟨t, rfl, s3 _ _ upd_same⟩ .nil⟩
    obtain ⟨ys, hys, hyl⟩ := h3.lst
    rw [enR_len] at hyl
    refine ⟨a, q, ys, [.ref t], rfl, rfl, hys, upd_same, by rw [hyl]; exact sle (show rs.length + 1 ≤ 1000000 by omega), fun b nb => ?_⟩
    have s4 : Same (upd (upd (upd H l (.lst [])) t (.tup [.non, .int 0])) q (.lst [.ref t])) (upd (upd (upd (upd H l (.lst [])) t (.tup [.non, .int 0])) q (.lst [.ref t])) b (.lst (ys ++ [.ref t]))) := Same.new nb
    have hb := LT.cat h3 hq hys upd_same nb
    have hbl : (upd (upd (upd (upd H l (.lst [])) t (.tup [.non, .int 0])) q (.lst [.ref t])) b (.lst (ys ++ [.ref t]))) b = some (.lst (ys ++ [.ref t])) := upd_same
    have bl : b ≠ l := by
      rintro rfl
      rw [(s2.trans s3) _ _ upd_same] at nb; cases nb
    have s14 := ((s1.trans s2).trans s3).trans s4
    have hl0 : PL K (upd (upd (upd (upd H l (.lst [])) t (.tup [.non, .int 0])) q (.lst [.ref t])) b (.lst (ys ++ [.ref t]))) l [] := GL.nil (((s2.trans s3).trans s4) _ _ upd_same)
    generalize upd (upd (upd (upd H l (.lst [])) t (.tup [.non, .int 0])) q (.lst [.ref t])) b (.lst (ys ++ [.ref t])) = H4 at hb hbl s14 hl0 ⊢
    have xlen : (ys ++ [V.ref t]).length = rs.length + 1 := by rw [List.length_append, hyl]; rfl
    refine ⟨b, rfl, ⟨_, SqL.h hbl⟩, for_list (K := K) (a := b) (xs := ys ++ [.ref t]) (fun i σ H' => Same H H' ∧ Mod l H4 H' ∧ ∃ (st w : Nat) (v4 v5 v6 : Option V) (fs : List PtD), σ = [some (.ref a), some (.ref l), some (vN st), some (vN w), v4, v5, v6] ∧ PL K H' l fs ∧ fs.length ≤ 3 * i ∧ (i ≤ rs.length → w ≤ st ∧ ptM 0 0 rs = fs ++ ptM st w (rs.drop i)) ∧ (i = rs.length + 1 → fs = ptM 0 0 rs))
      ⟨s14, Mod.refl, 0, 0, none, none, none, [], rfl, hl0, Nat.zero_le _, fun _ => ⟨Nat.le_refl _, rfl⟩, fun e => by omega⟩ (fun i σ H' _ h => SqL.h (h.2.1 _ _ bl hbl)) ?_ ?_⟩
    · rintro i x σ H' hx ⟨sH, mH, st, w, v4, v5, v6, fs, rfl, hl, hfz, hinv, _⟩
      have hi : i < rs.length + 1 := by
        have := (List.getElem?_eq_some_iff.mp hx).1
        omega
      obtain ⟨hw, hm⟩ := hinv (by omega)
      obtain ⟨ls4, hls4, _⟩ := hl0.lst
      obtain ⟨r, t0, e1, rfl, e3⟩ := (hb.mod bl hls4 mH).row (mH _ _ bl hbl) hx
      have jnE : ∀ w : Nat, (if 0 < w then 1 else 0) = jn w := fun _ => rfl
      rcases Nat.lt_or_ge i rs.length with hi2 | hi2
      · rw [List.getElem?_append_left (by rw [enR_len]; exact hi2)] at e1
        obtain ⟨⟨z, c⟩, e4, rfl⟩ := enR_get e1
        rw [dropc e4] at hm
        refine ⟨t0, _, rfl, SqT.h e3, rfl, _, _, rfl, _, _, rfl, rfl, ?_⟩
        -- the turn's end
        have fin : ∀ (w' : Nat) (v4 v5 v6 : Option V) (H2 : Hp) (gs : List PtD), Mod l H' H2 → PL K H2 l gs → gs.length ≤ fs.length + 2 → w' ≤ st + c → ptM 0 0 rs = gs ++ ptM (st + c) w' (rs.drop (i + 1)) →
            Same H H2 ∧ Mod l H4 H2 ∧ ∃ (st' w : Nat) (v4' v5' v6' : Option V) (fs : List PtD), [some (V.ref a), some (.ref l), some (vN (st + c)), some (vN w'), v4, v5, v6] = [some (.ref a), some (.ref l), some (vN st'), some (vN w), v4', v5', v6'] ∧ PL K H2 l fs ∧ fs.length ≤ 3 * (i + 1) ∧ (i + 1 ≤ rs.length → w ≤ st' ∧ ptM 0 0 rs = fs ++ ptM st' w (rs.drop (i + 1))) ∧ (i + 1 = rs.length + 1 → fs = ptM 0 0 rs) := fun w' v4 v5 v6 H2 gs m2 hg hgz hw' he =>
          ⟨m2.same sH nl, mH.trans m2, st + c, w', _, _, _, gs, rfl, hg, by omega, fun _ => ⟨hw', he⟩, fun e => by omega⟩
        refine ⟨_, rfl, rfl, _, rfl, ite2 (fun hB => ?_) (fun hB => ?_)⟩
        · have zB : z = sB := V.str.inj (of_decide_eq_true hB)
          subst zB
          refine ⟨_, rfl, _, rfl, _, rfl, st, c, rfl, rfl, ?_⟩
          refine fin c _ _ _ H' fs Mod.refl hl (by omega) (by omega) ?_
          rw [hm]; exact congrArg (fs ++ ·) (if_pos rfl)
        · have zB : z ≠ sB := fun q => hB (decide_eq_true (congrArg V.str q))
          refine ⟨_, rfl, rfl, _, rfl, ite2 (fun hQ => ?_) (fun hQ => ?_)⟩
          · have zQ : z = sQ := V.str.inj (of_decide_eq_true hQ)
            subst zQ
            refine ⟨_, rfl, w, 0, rfl, rfl, .inr ⟨_, rfl, ?_⟩⟩
            rw [jn_v]
            have a0 : (if decide (jn w = 1) = true then [((st - w, none, w + 1, true, 1) : PtD)] else []).length ≤ 1 := by split <;> simp
            dsimp only [gName]
            refine if_push (st - w, none, w + 1, true, 1) (decide (jn w = 1)) rfl hl (by omega) (fun Q q => ⟨_, rfl, jn w, 1, rfl, rfl, _, rfl, q⟩) (fun hb Q q => ⟨_, rfl, _, rfl, st, w, rfl, rfl, hw, _, rfl, w, 1, rfl, rfl, q⟩) fun H2 m2 h2 => ?_
            dsimp only
            refine if_push (st + jn w, none, 1, true, c - jn w) (decide (jn w < c)) rfl h2 (by rw [List.length_append]; omega) (fun Q q => ⟨_, rfl, _, rfl, c, jn w, rfl, rfl, _, rfl, q⟩) (fun hb Q q => ⟨_, rfl, _, rfl, st, jn w, rfl, rfl, _, rfl, _, rfl, c, jn w, rfl, rfl, Nat.le_of_lt (of_decide_eq_true hb), q⟩) fun H3 m3 h3 => ?_
            refine ⟨_, rfl, _, rfl, st, c, rfl, rfl, ?_⟩
            have g1 : (if decide (jn w = 1) = true then [((st - w, none, w + 1, true, 1) : PtD)] else []) = if 0 < w then [(st - w, none, w + 1, true, 1)] else [] := by
              unfold jn
              by_cases h : 0 < w
              · rw [if_pos h, if_pos h]; rfl
              · rw [if_neg h, if_neg h]; rfl
            have g2 : (if decide (jn w < c) = true then [((st + jn w, none, 1, true, c - jn w) : PtD)] else []) = if (if 0 < w then 1 else 0) < c then [(st + (if 0 < w then 1 else 0), none, 1, true, c - (if 0 < w then 1 else 0))] else [] := by
              show _ = if jn w < c then [(st + jn w, none, 1, true, c - jn w)] else []
              by_cases h : jn w < c
              · rw [if_pos (decide_eq_true h), if_pos h]
              · rw [if_neg (by simpa using h), if_neg h]
            rw [g1, g2] at h3
            refine fin 0 _ _ _ H3 _ (m2.trans m3) h3 ?_ (Nat.zero_le _) ?_
            · have a1 : (if 0 < w then [((st - w, none, w + 1, true, 1) : PtD)] else []).length ≤ 1 := by split <;> simp
              have a2 : (if (if 0 < w then 1 else 0) < c then [((st + (if 0 < w then 1 else 0), none, 1, true, c - (if 0 < w then 1 else 0)) : PtD)] else []).length ≤ 1 := one_if _ _
              rw [List.length_append, List.length_append]; omega
            · have : ptM st w ((sQ, c) :: rs.drop (i + 1)) = (if 0 < w then [((st - w, none, w + 1, true, 1) : PtD)] else []) ++ (if (if 0 < w then 1 else 0) < c then [((st + (if 0 < w then 1 else 0), none, 1, true, c - (if 0 < w then 1 else 0)) : PtD)] else []) ++ ptM (st + c) 0 (rs.drop (i + 1)) := by
                conv => lhs; unfold ptM
                rw [if_neg (show ¬ (sQ, c).1 = sB from sQB), if_pos (show (sQ, c).1 = sQ from rfl)]
              rw [hm, this, List.append_assoc, List.append_assoc, List.append_assoc]
          · have zQ : z ≠ sQ := fun q => hQ (decide_eq_true (congrArg V.str q))
            refine if_push (st - w, none, w, false, 1) (decide (0 < w)) rfl hl (by omega) (fun Q q => ⟨_, rfl, w, 0, rfl, rfl, _, rfl, q⟩) (fun hb Q q => ⟨_, rfl, _, rfl, st, w, rfl, rfl, hw, _, rfl, q⟩) fun H2 m2 h2 => ?_
            have g1 : (if decide (0 < w) = true then [((st - w, none, w, false, 1) : PtD)] else []) = if 0 < w then [(st - w, none, w, false, 1)] else [] := by
              by_cases h : 0 < w
              · rw [if_pos (decide_eq_true h), if_pos h]
              · rw [if_neg (by simpa using h), if_neg h]
            have a1 : (if 0 < w then [((st - w, none, w, false, 1) : PtD)] else []).length ≤ 1 := by split <;> simp
            rw [g1] at h2
            dsimp only
            refine if_push (st, some z, c, false, 1) true rfl h2 (by rw [List.length_append]; omega) (fun Q q => ⟨_, rfl, rfl, true, rfl, q⟩) (fun hb Q q => ⟨_, rfl, _, rfl, _, rfl, q⟩) fun H3 m3 h3 => ?_
            refine ⟨_, rfl, _, rfl, st, c, rfl, rfl, ?_⟩
            refine fin 0 _ _ _ H3 _ (m2.trans m3) h3 ?_ (Nat.zero_le _) ?_
            · rw [if_pos rfl, List.length_append, List.length_append]
              show _ + _ + 1 ≤ _
              omega
            · have : ptM st w ((z, c) :: rs.drop (i + 1)) = (if 0 < w then [((st - w, none, w, false, 1) : PtD)] else []) ++ [(st, some z, c, false, 1)] ++ ptM (st + c) 0 (rs.drop (i + 1)) := by
                conv => lhs; unfold ptM
                rw [if_neg (show ¬ (z, c).1 = sB from zB), if_neg (show ¬ (z, c).1 = sQ from zQ)]
              rw [hm, this, if_pos rfl, List.append_assoc, List.append_assoc, List.append_assoc]
      · have ei : i = rs.length := by omega
        subst ei
        rw [List.getElem?_append_right (by rw [enR_len]; exact Nat.le_refl _), enR_len, Nat.sub_self] at e1
        have e1' : r = [V.non, vN 0] := (Option.some.inj e1).symm
        subst e1'
        rw [List.drop_length] at hm
        refine ⟨t0, _, rfl, SqT.h e3, rfl, _, _, rfl, _, _, rfl, rfl, ?_⟩
        refine ⟨_, rfl, rfl, false, rfl, iteF ⟨_, rfl, rfl, false, rfl, iteF ?_⟩⟩
        refine if_push (st - w, none, w, false, 1) (decide (0 < w)) rfl hl (by omega) (fun Q q => ⟨_, rfl, w, 0, rfl, rfl, _, rfl, q⟩) (fun hb Q q => ⟨_, rfl, _, rfl, st, w, rfl, rfl, hw, _, rfl, q⟩) fun H2 m2 h2 => ?_
        have g1 : (if decide (0 < w) = true then [((st - w, none, w, false, 1) : PtD)] else []) = ptM st w [] := by
          unfold ptM
          by_cases h : 0 < w
          · rw [if_pos (decide_eq_true h), if_pos h]
          · rw [if_neg (by simpa using h), if_neg h]
        have a1 : (ptM st w []).length ≤ 1 := by
          unfold ptM
          split <;> simp
        rw [g1] at h2
        refine ⟨_, rfl, rfl, false, rfl, iteF ?_⟩
        refine ⟨_, rfl, _, rfl, st, 0, rfl, rfl, ?_⟩
        exact ⟨m2.same sH nl, mH.trans m2, st, 0, _, _, _, _, rfl, h2, by rw [List.length_append]; omega, fun e => by omega, fun _ => hm.symm⟩
    · rintro σ H' ⟨sH, mH, st, w, v4, v5, v6, fs, rfl, hl, hfz, _, hfin⟩
      rw [xlen] at hfz hfin
      have := hfin rfl
      subst this
      exact ⟨_, rfl, k H' l sH nl hl (by omega)⟩
end
end Sl


end
section
set_option Elab.async false
set_option linter.all false
set_option maxRecDepth 100000
set_option maxHeartbeats 4000000
namespace Sl
open PySem PySem.Spec PyProof.Rows L2
/-! ### groups -/
def enG (gs : List GrD) : List (List V) := gs.map fun g => [vN g.1, vN g.2.1, .bl g.2.2.1, vN g.2.2.2]
theorem enG_len (gs : List GrD) : (enG gs).length = gs.length := List.length_map ..
theorem enG_get {gs : List GrD} {i : Nat} {r : List V} (h : (enG gs)[i]? = some r) : ∃ g, gs[i]? = some g ∧ r = [vN g.1, vN g.2.1, .bl g.2.2.1, vN g.2.2.2] := by
  unfold enG at h
  rw [List.getElem?_map] at h
  cases e : gs[i]? with
  | none => rw [e] at h; cases h
  | some x => rw [e] at h; exact ⟨x, rfl, (Option.some.inj h).symm⟩
theorem ptM_bd : ∀ (rs : Rn) (st w : Nat), ∀ p ∈ ptM st w rs, p.2.2.1 ≤ w + tsz rs + 1 ∧ p.2.2.2.2 ≤ tsz rs + 1
  | [], st, w, p, h => by
    unfold ptM at h
    by_cases hw : 0 < w
    · rw [if_pos hw] at h
      rw [List.mem_singleton.mp h]
      exact ⟨by show w ≤ _; omega, by show 1 ≤ _; omega⟩
    · rw [if_neg hw] at h; cases h
  | x :: r, st, w, p, h => by
    have e : tsz (x :: r) = x.2 + tsz r := by unfold tsz; rw [List.map_cons, List.sum_cons]
    rw [e]
    unfold ptM at h
    by_cases hB : x.1 = sB
    · rw [if_pos hB] at h
      have := ptM_bd r _ _ p h
      omega
    · rw [if_neg hB] at h
      by_cases hQ : x.1 = sQ
      · rw [if_pos hQ] at h
        rcases List.mem_append.mp h with h | h
        · rcases List.mem_append.mp h with h | h
          · by_cases hw : 0 < w
            · rw [if_pos hw] at h
              rw [List.mem_singleton.mp h]
              exact ⟨by show w + 1 ≤ _; omega, by show 1 ≤ _; omega⟩
            · rw [if_neg hw] at h; cases h
          · generalize (if 0 < w then 1 else 0) = j at h
            by_cases hw : j < x.2
            · rw [if_pos hw] at h
              rw [List.mem_singleton.mp h]
              exact ⟨by show 1 ≤ _; omega, by show x.2 - j ≤ _; omega⟩
            · rw [if_neg hw] at h; cases h
        · have := ptM_bd r _ _ p h
          omega
      · rw [if_neg hQ] at h
        rcases List.mem_append.mp h with h | h
        · rcases List.mem_append.mp h with h | h
          · by_cases hw : 0 < w
            · rw [if_pos hw] at h
              rw [List.mem_singleton.mp h]
              exact ⟨by show w ≤ _; omega, by show 1 ≤ _; omega⟩
            · rw [if_neg hw] at h; cases h
          · rw [List.mem_singleton.mp h]
            exact ⟨by show x.2 ≤ _; omega, by show 1 ≤ _; omega⟩
        · have := ptM_bd r _ _ p h
          omega
theorem lt_400 {n : Nat} (h : n ≤ 2 ^ 250) : n < 2 ^ 400 := Nat.lt_of_le_of_lt h (Nat.pow_lt_pow_right (by decide) (by decide))
theorem UB.gr {U : List Un} (o : UB U) {g : GrD} (h : g ∈ grT U) : g.2.1 < 2 ^ 400 ∧ g.2.2.2 < 2 ^ 400 := by
  obtain ⟨p, hp, e⟩ := List.mem_filterMap.mp h
  have b := ptM_bd (rnT U) 0 0 p hp
  rw [o.tsz] at b
  have t := o.tot
  have e2 : g.2.1 = p.2.2.1 ∧ g.2.2.2 = p.2.2.2.2 := by
    cases e3 : p.2.1 with
    | none => rw [e3] at e; rw [← Option.some.inj e]; exact ⟨rfl, rfl⟩
    | some s => rw [e3] at e; cases e
  rw [e2.1, e2.2]
  exact ⟨lt_400 (by omega), lt_400 (by omega)⟩
/-- a Places -/
def gaL (K : PySem.W.Frag) : Addr := He.ga K "Places"
structure PlFs (fs : List (Str × V)) (g : Addr) (U : List Un) : Prop where
  a : fs.lookup ("length" : Str) = some (vN (tot U))
  b : fs.lookup ("groups" : Str) = some (.ref g)
  m1 : fs.lookup ("group_with" : Str) = none
  m2 : fs.lookup ("last_place" : Str) = none
  m3 : fs.lookup ("place_until" : Str) = none
  m4 : fs.lookup ("block_end" : Str) = none
  m5 : fs.lookup ("inner_level" : Str) = none
def PlV (K : PySem.W.Frag) (H : Hp) (x : V) (U : List Un) : Prop := ∃ a dx fs g, x = .ref a ∧ H a = some (.ins (gaL K) dx fs) ∧ PlFs fs g U ∧ LT H g (enG (grT U))
theorem PlV.same {K : PySem.W.Frag} {H H' : Hp} {x : V} {U : List Un} (h : PlV K H x U) (s : Same H H') : PlV K H' x U := by
  obtain ⟨a, dx, fs, g, e, h1, h2, h3⟩ := h
  exact ⟨a, dx, fs, g, e, s _ _ h1, h2, h3.same s⟩
section
variable {P : Program} {w : World} {K : PySem.W.Frag} {mg : Str → Option Value} {base : Heap}
/-! ### groups_of -/
def sp_groups_of : Sp := fun vs H Q _ => ∃ (a : Addr) (U : List Un), vs = [.ref a] ∧ LT H a (enR (rnT U)) ∧ UB U ∧ ∀ H' p, Same H H' → H p = none → LT H' p (enG (grT U)) → Q (.ref p) H'
abbrev n_groups_of : List Str := ["text", "parts", "part"]
theorem sc_groups_of : FnScope n_groups_of ["text"] (defScope s_groups_of) := ⟨rfl, rfl, rfl, by decide +kernel, rfl, by decide +kernel, by decide +kernel⟩
theorem ok_groups_of (T : Txt K mg) : Cl P w K mg base CX0 "groups_of" ["text"] 5 [] sp_groups_of := by
  obtain ⟨fd, F⟩ := T.def_ 15 (d := d_groups_of) rfl
  have C_parts_of := ok_parts_of (P := P) (w := w) (base := base) T
  have C_checked_text := ok_checked_text (P := P) (w := w) (base := base) T
  have C_is_group := ok_Part_is_group (P := P) (w := w) (base := base) T
  refine cl_ok F (T.glo 12) (fun _ _ _ _ _ _ us hl => match us, hl with | [_], _ => rfl) sc_groups_of (fun vs H Q E h => ?_) (fun cdv A outer s H vs Q E hr h => ?_)
  · obtain ⟨a, U, rfl, _⟩ := h
    rfl
  · obtain ⟨a, U, rfl, ha, o, k⟩ := h
    refine ⟨_, (pss_cons (ps_set (i := 1) sc_groups_of.nd rfl (Or.inl rfl) (pe_cl C_parts_of (hr.mono (by decide)) (pa_cons (pe_cl C_checked_text (hr.mono (by decide)) (pa_cons (pv 0) pa_nil)) pa_nil)))
      (pss_one (ps_ret (pe_lc (own := [("part", 2)]) (g := (gName 2)) rfl sc_groups_of.nd (pi_list (pv 1)) (blkOk_by (N := n_groups_of) (sc := defScope s_groups_of) (by decide +kernel)) (fun _ _ _ _ _ => (pg_name (i := 2) sc_groups_of.nd rfl (Or.inl rfl))) (fun _ _ _ _ _ => (pts_one (pt_val (pe_clm0K K C_is_group (hr.mono (by decide)) (pv 2))))) (fun _ _ _ _ _ => (pe_tup (pa_cons (pe_fldK K (pv 2)) (pa_cons (pe_fldK K (pv 2)) (pa_cons (pe_fldK K (pv 2)) (pa_cons (pe_fldK K (pv 2)) pa_nil)))))))))), ?_⟩
    have hr := o.run
    refine ⟨_, rfl, a, _, rfl, ha, o.rnok, by omega, fun H1 q s1 nq h1 => ?_⟩
    refine ⟨q, _, rfl, h1, by omega, fun H2 p s2 np h2 hz => ?_⟩
    obtain ⟨xs, hxs, hxl⟩ := h2.lst
    refine ⟨_, rfl, p, rfl, ⟨_, SqL.h hxs⟩, fun D nD => lcL_rows (xs := xs) (fun i => (ptM 0 0 (rnT U))[i]?.bind fun p => match p.2.1 with | none => some [vN p.1, vN p.2.2.1, .bl p.2.2.2.1, vN p.2.2.2.2] | some _ => none) (by omega) nD (SqL.h hxs) (fun i x H3 hx s3 Qc Qn t => ?_) fun H3 s3 hD => ?_⟩
    · obtain ⟨p0, e1, e2⟩ := (h2.same (stabPt K) s3).row (s3 _ _ hxs) hx
      have e2' := e2
      obtain ⟨a0, dx, fs, rfl, ha0, hf⟩ := e2
      have c := He.cls_ok (T.fact 108 (f := .cls "Part") rfl)
      refine ⟨rfl, ?_⟩
      refine ⟨_, rfl, a0, dx, fs, rfl, ha0, hf.g, _, p0, rfl, e2', ?_⟩
      unfold TurnR at t
      rw [e1] at t
      cases e3 : p0.2.1 with
      | none =>
        simp only [Option.bind_some, e3] at t
        refine ⟨true, rfl, iteT ?_⟩
        refine ⟨_, rfl, a0, gaP K, dx, fs, _, rfl, ha0, c, He.noat_ok (T.fact 110 (f := .noat "Part" "start") rfl), hf.a, ?_⟩
        refine ⟨_, rfl, a0, gaP K, dx, fs, _, rfl, ha0, c, He.noat_ok (T.fact 112 (f := .noat "Part" "size") rfl), hf.c, ?_⟩
        refine ⟨_, rfl, a0, gaP K, dx, fs, _, rfl, ha0, c, He.noat_ok (T.fact 113 (f := .noat "Part" "quoted") rfl), hf.d, ?_⟩
        refine ⟨_, rfl, a0, gaP K, dx, fs, _, rfl, ha0, c, He.noat_ok (T.fact 114 (f := .noat "Part" "many") rfl), hf.e, ?_⟩
        exact ⟨z4, fun u nu => t _ _ (Same.new nu) ⟨u, rfl, upd_same⟩⟩
      | some z =>
        simp only [Option.bind_some, e3] at t
        refine ⟨false, rfl, iteF ?_⟩
        exact t _ (Same.refl _)
    · have e : (List.range xs.length).filterMap (fun i => (ptM 0 0 (rnT U))[i]?.bind fun p => match p.2.1 with | none => some [vN p.1, vN p.2.2.1, .bl p.2.2.2.1, vN p.2.2.2.2] | some _ => none) = enG (grT U) := by
        rw [hxl, fm_rows (rows := ptM 0 0 (rnT U)) (k := fun p : PtD => match p.2.1 with | none => some [vN p.1, vN p.2.2.1, V.bl p.2.2.2.1, vN p.2.2.2.2] | some _ => none) (fun i r h => by rw [h]; rfl)]
        unfold enG grT grM
        rw [List.map_filterMap]
        congr 1
        funext p
        cases p.2.1 <;> rfl
      rw [e] at hD
      exact k H3 D ((s1.trans s2).trans s3) ((s1.trans s2).free nD) hD
/-! ### Places -/
def sp_Places_init (K : PySem.W.Frag) : Sp := fun vs H Q _ => ∃ (x dx a : Addr) (U : List Un), vs = [.ref x, .ref a] ∧ H x = some (.ins (gaL K) dx []) ∧ LT H a (enR (rnT U)) ∧ UB U ∧ ∀ H', (∀ b o, b ≠ x → H b = some o → H' b = some o) → PlV K H' (.ref x) U → Q .non H'
abbrev n_Places_init : List Str := ["self", "text"]
theorem sc_Places_init : FnScope n_Places_init ["self", "text"] (defScope s_Places_init) := ⟨rfl, rfl, rfl, by decide +kernel, rfl, by decide +kernel, by decide +kernel⟩
theorem ok_Places_init (T : Txt K mg) : ClK P w K mg base CX0 "Places" ["self", "text"] 6 (sp_Places_init K) := by
  obtain ⟨fd, F⟩ := T.def_ 51 (d := d_Places_init) rfl
  have C_length_of := ok_length_of (P := P) (w := w) (base := base) T
  have C_groups_of := ok_groups_of (P := P) (w := w) (base := base) T
  refine clk_ok (x := "Places") F (T.fact 117) (T.glo 75) (fun _ _ _ _ _ _ us hl => match us, hl with | [_, _], _ => rfl) sc_Places_init (fun vs H Q E h => ?_) (fun cdv A outer s H vs Q E hr h => ?_)
  · obtain ⟨x, dx, a, U, rfl, _⟩ := h
    rfl
  · obtain ⟨x, dx, a, U, rfl, hx, ha, o, k⟩ := h
    refine ⟨_, (pss_cons (ps_fld (pv 0) (pe_cl C_length_of (hr.mono (by decide)) (pa_cons (pv 1) pa_nil)) rfl)
      (pss_one (ps_fld (pv 0) (pe_cl C_groups_of (hr.mono (by decide)) (pa_cons (pv 1) pa_nil)) rfl))), ?_⟩
    have c := He.cls_ok (T.fact 116 (f := .cls "Places") rfl)
    have hr' := o.run
    refine ⟨_, rfl, a, _, rfl, ha, o.rnok, by omega, fun H1 s1 => ?_⟩
    rw [o.tsz]
    refine ⟨_, rfl, x, gaL K, dx, _, rfl, s1 _ _ hx, c, He.noat_ok (T.fact 118 (f := .noat "Places" "length") rfl), by decide, ?_⟩
    obtain ⟨ls, hls, _⟩ := ha.lst
    have ax : a ≠ x := by
      rintro rfl
      rw [hx] at hls; cases hls
    have m1 : ∀ b o, b ≠ x → H b = some o → (L2.upd H1 x (.ins (gaL K) dx (putF "length" (vN (tot U)) []))) b = some o := fun b o hb e => by
      rw [upd_ne hb]; exact s1 _ _ e
    have stay : ∀ {H H' : Hp} {l : Addr} {rows : List (List V)} {C : Addr} {fs : List (Str × V)}, LT H l rows → H x = some (.ins C dx fs) → (∀ b o, b ≠ x → H b = some o → H' b = some o) → LT H' l rows := fun {H H' l rows C fs} h hx m => by
      obtain ⟨xs, h1, h2⟩ := h
      refine ⟨xs, m _ _ (by rintro rfl; rw [hx] at h1; cases h1) h1, L2.Paired.mapP h2 fun y r q => ?_⟩
      obtain ⟨t, e1, e2⟩ := q
      exact ⟨t, e1, m _ _ (by rintro rfl; rw [hx] at e2; cases e2) e2⟩
    have ha1 := stay ha hx m1
    generalize hH2 : L2.upd H1 x (.ins (gaL K) dx (putF "length" (vN (tot U)) [])) = H2 at m1 ha1
    have hx2 : H2 x = some (.ins (gaL K) dx (putF "length" (vN (tot U)) [])) := by rw [← hH2]; exact upd_same
    refine ⟨_, rfl, a, U, rfl, ha1, o, fun H3 g s3 ng hg => ?_⟩
    refine ⟨_, rfl, x, gaL K, dx, _, rfl, s3 _ _ hx2, c, He.noat_ok (T.fact 119 (f := .noat "Places" "groups") rfl), Nat.lt_of_le_of_lt (putF_len _ _ _) (by decide), ?_⟩
    have m3 : ∀ b o, b ≠ x → H3 b = some o → (L2.upd H3 x (.ins (gaL K) dx (putF "groups" (.ref g) (putF "length" (vN (tot U)) [])))) b = some o := fun b o hb e => by
      rw [upd_ne hb]; exact e
    refine k _ (fun b o hb e => m3 b o hb (s3 _ _ (m1 b o hb e))) ⟨x, dx, putF "groups" (.ref g) (putF "length" (vN (tot U)) []), g, rfl, upd_same, ⟨?_, ?_, ?_, ?_, ?_, ?_, ?_⟩, stay hg (s3 _ _ hx2) m3⟩
    · rw [lk_n _ _ (by decide), lk_s]
    · rw [lk_s]
    all_goals (rw [lk_n _ _ (by decide), lk_n _ _ (by decide)]; rfl)
end
end Sl


end
section
set_option Elab.async false
set_option linter.all false
set_option maxRecDepth 100000
set_option maxHeartbeats 4000000
namespace Sl
open PySem PySem.Spec PyProof.Rows L2
/-- what group_with answers -/
def gwQ (H : Hp) (Q : VK) : Option (Nat × Nat) → Prop
  | none => ∀ H', Same H H' → Q .non H'
  | some g => ∀ H' q, Same H H' → H q = none → H' q = some (.tup [vN g.1, vN g.2]) → Q (.ref q) H'
section
variable {P : Program} {w : World} {K : PySem.W.Frag} {mg : Str → Option Value} {base : Heap}
def sp_Places_group_with (K : PySem.W.Frag) : Sp := fun vs H Q _ => ∃ (x : V) (U : List Un) (p : Nat), vs = [x, vN p] ∧ PlV K H x U ∧ UB U ∧ gwQ H Q (gwU 0 U p)
abbrev n_Places_group_with : List Str := ["self", "position", "start", "size", "quoted", "many"]
theorem sc_Places_group_with : FnScope n_Places_group_with ["self", "position"] (defScope s_Places_group_with) := ⟨rfl, rfl, rfl, by decide +kernel, rfl, by decide +kernel, by decide +kernel⟩
theorem ok_Places_group_with (T : Txt K mg) : ClM P w K mg base CX0 "Places" "group_with" ["self", "position"] 1 (sp_Places_group_with K) := by
  obtain ⟨fd, F⟩ := T.def_ 52 (d := d_Places_group_with) rfl
  refine clm_ok (x := "Places") F (T.fact 116) (T.fact 120) (fun _ _ _ _ _ _ us hl => match us, hl with | [_, _], _ => rfl) sc_Places_group_with (fun vs H Q E h => ?_) (fun cdv A outer s H vs Q E hr h => ?_)
  · obtain ⟨x, U, p, rfl, _⟩ := h
    rfl
  · obtain ⟨x, U, p, rfl, ⟨a, dx, fs, g, rfl, ha, hf, hg⟩, o, k⟩ := h
    refine ⟨_, (pss_cons (ps_for PassesOwn.never rfl (pi_list (pe_fldK K (pv 0))) (pg_tup rfl (pgs_cons (pg_name (i := 2) sc_Places_group_with.nd rfl (Or.inl rfl)) (pgs_cons (pg_name (i := 3) sc_Places_group_with.nd rfl (Or.inl rfl)) (pgs_cons (pg_name (i := 4) sc_Places_group_with.nd rfl (Or.inl rfl)) (pgs_cons (pg_name (i := 5) sc_Places_group_with.nd rfl (Or.inl rfl)) pgs_nil)))))
        (pss_one (ps_if (pt_chain oLe oLt (pv 2) (pv 1) (pe_op oAdd (pv 2) (pe_op oMul (pv 3) (pv 5))))
          (pss_one (ps_ret (pe_ifExp (pt_cmpR oGt (pv 5) pe_int (nomark _)) (pe_tup (pa_cons (pv 1) (pa_cons pe_int pa_nil))) (pe_tup (pa_cons (pv 2) (pa_cons (pv 3) pa_nil))))))
          pss_nil)))
      (pss_one (ps_ret pe_non))), ?_⟩
    have c := He.cls_ok (T.fact 116 (f := .cls "Places") rfl)
    rw [← grT_gw o.wu] at k
    obtain ⟨xs, hxs, hxl⟩ := hg.lst
    rw [enG_len] at hxl
    refine ⟨_, rfl, a, gaL K, dx, fs, _, rfl, ha, c, He.noat_ok (T.fact 119 (f := .noat "Places" "groups") rfl), hf.b, ?_⟩
    refine ⟨g, rfl, ⟨_, SqL.h hxs⟩, for_list (K := K) (a := g) (xs := xs) (fun i σ H' => H' = H ∧ (∃ (v2 v3 v4 v5 : Option V), σ = [some (.ref a), some (vN p), v2, v3, v4, v5]) ∧ gfd (grT U) p = gfd ((grT U).drop i) p)
      ⟨rfl, ⟨none, none, none, none, rfl⟩, rfl⟩ (fun i σ H' _ h => by rw [h.1]; exact SqL.h hxs) ?_ ?_⟩
    · rintro i x σ H' hx ⟨rfl, ⟨v2, v3, v4, v5, rfl⟩, he⟩
      obtain ⟨r, t0, e1, rfl, e3⟩ := hg.row hxs hx
      obtain ⟨⟨st, sz, qd, mn⟩, e4, rfl⟩ := enG_get e1
      have bd := o.gr (List.mem_of_getElem? e4)
      rw [dropc e4] at he
      refine ⟨t0, _, rfl, SqT.h e3, rfl, _, _, rfl, _, _, rfl, _, _, rfl, _, _, rfl, rfl, ?_⟩
      have yes' : st ≤ p ∧ p < st + sz * mn → gfd (grT U) p = some (if 1 < mn then (p, 1) else (st, sz)) := fun h => he.trans (if_pos h)
      have no' : ¬ (st ≤ p ∧ p < st + sz * mn) → gfd (grT U) p = gfd ((grT U).drop (i + 1)) p := fun h => he.trans (if_neg h)
      refine ⟨_, rfl, _, rfl, st, p, rfl, rfl, _, rfl, ite2 (fun h1 => ?_) (fun h1 => ?_)⟩
      · have h1' : st ≤ p := of_decide_eq_true h1
        refine ⟨_, rfl, _, rfl, _, rfl, sz, mn, rfl, rfl, bd, st, sz * mn, rfl, rfl, p, st + sz * mn, rfl, rfl, _, rfl, ite2 (fun h2 => ?_) (fun h2 => ?_)⟩
        · have h2' : p < st + sz * mn := of_decide_eq_true h2
          rw [yes' ⟨h1', h2'⟩] at k
          refine ⟨_, rfl, mn, 1, rfl, rfl, _, rfl, ite2 (fun h3 => ?_) (fun h3 => ?_)⟩
          · rw [if_pos (of_decide_eq_true h3 : 1 < mn)] at k
            exact ⟨_, rfl, z2, fun q nq => k _ q (Same.new nq) nq upd_same⟩
          · rw [if_neg (show ¬ 1 < mn from fun q => h3 (decide_eq_true q))] at k
            exact ⟨_, rfl, _, rfl, z2, fun q nq => k _ q (Same.new nq) nq upd_same⟩
        · exact ⟨rfl, ⟨_, _, _, _, rfl⟩, no' fun q => h2 (decide_eq_true q.2)⟩
      · exact ⟨false, rfl, iteF ⟨rfl, ⟨_, _, _, _, rfl⟩, no' fun q => h1 (decide_eq_true q.1)⟩⟩
    · rintro σ H' ⟨rfl, ⟨v2, v3, v4, v5, rfl⟩, he⟩
      have et : (grT U).drop xs.length = [] := by rw [hxl]; exact List.drop_length
      rw [et] at he
      have he' : gfd (grT U) p = none := he
      rw [he'] at k
      exact k _ (Same.refl _)
def sp_Places_last_place (K : PySem.W.Frag) : Sp := fun vs H Q _ => ∃ (x : V) (U : List Un) (l : Nat), vs = [x, vN l] ∧ PlV K H x U ∧ UB U ∧ l ≤ 300 ∧ Q (vN (lpU l 0 U)) H
abbrev n_Places_last_place : List Str := ["self", "level", "start", "size", "quoted", "many"]
theorem sc_Places_last_place : FnScope n_Places_last_place ["self", "level"] (defScope s_Places_last_place) := ⟨rfl, rfl, rfl, by decide +kernel, rfl, by decide +kernel, by decide +kernel⟩
theorem ok_Places_last_place (T : Txt K mg) : ClM P w K mg base CX0 "Places" "last_place" ["self", "level"] 1 (sp_Places_last_place K) := by
  obtain ⟨fd, F⟩ := T.def_ 53 (d := d_Places_last_place) rfl
  refine clm_ok (x := "Places") F (T.fact 116) (T.fact 121) (fun _ _ _ _ _ _ us hl => match us, hl with | [_, _], _ => rfl) sc_Places_last_place (fun vs H Q E h => ?_) (fun cdv A outer s H vs Q E hr h => ?_)
  · obtain ⟨x, U, l, rfl, _⟩ := h
    rfl
  · obtain ⟨x, U, l, rfl, ⟨a, dx, fs, g, rfl, ha, hf, hg⟩, o, hlv, k⟩ := h
    refine ⟨_, (pss_cons (ps_for PassesOwn.never rfl (pi_list (pe_fldK K (pv 0))) (pg_tup rfl (pgs_cons (pg_name (i := 2) sc_Places_last_place.nd rfl (Or.inl rfl)) (pgs_cons (pg_name (i := 3) sc_Places_last_place.nd rfl (Or.inl rfl)) (pgs_cons (pg_name (i := 4) sc_Places_last_place.nd rfl (Or.inl rfl)) (pgs_cons (pg_name (i := 5) sc_Places_last_place.nd rfl (Or.inl rfl)) pgs_nil)))))
        (pss_one (ps_if (pt_cmpR oNe (pe_op oMod (pv 3) (pe_op oShl pe_int (pv 1))) pe_int (nomark _))
          (pss_one (ps_ret (pe_op oAdd (pv 2) (pe_op oShl (pe_op oShr (pv 3) (pv 1)) (pv 1)))))
          pss_nil)))
      (pss_one (ps_ret (pe_fldK K (pv 0))))), ?_⟩
    have c := He.cls_ok (T.fact 116 (f := .cls "Places") rfl)
    rw [← grT_lp o.wu] at k
    obtain ⟨xs, hxs, hxl⟩ := hg.lst
    rw [enG_len] at hxl
    refine ⟨_, rfl, a, gaL K, dx, fs, _, rfl, ha, c, He.noat_ok (T.fact 119 (f := .noat "Places" "groups") rfl), hf.b, ?_⟩
    refine ⟨g, rfl, ⟨_, SqL.h hxs⟩, for_list (K := K) (a := g) (xs := xs) (fun i σ H' => H' = H ∧ (∃ (v2 v3 v4 v5 : Option V), σ = [some (.ref a), some (vN l), v2, v3, v4, v5]) ∧ gls l (tot U) (grT U) = gls l (tot U) ((grT U).drop i))
      ⟨rfl, ⟨none, none, none, none, rfl⟩, rfl⟩ (fun i σ H' _ h => by rw [h.1]; exact SqL.h hxs) ?_ ?_⟩
    · rintro i x σ H' hx ⟨rfl, ⟨v2, v3, v4, v5, rfl⟩, he⟩
      obtain ⟨r, t0, e1, rfl, e3⟩ := hg.row hxs hx
      obtain ⟨⟨st, sz, qd, mn⟩, e4, rfl⟩ := enG_get e1
      have bd := o.gr (List.mem_of_getElem? e4)
      rw [dropc e4] at he
      have p0 : 0 < 1 * 2 ^ l := by rw [Nat.one_mul]; exact Nat.two_pow_pos l
      refine ⟨t0, _, rfl, SqT.h e3, rfl, _, _, rfl, _, _, rfl, _, _, rfl, _, _, rfl, rfl, ?_⟩
      refine ⟨_, rfl, _, rfl, 1, l, rfl, rfl, ⟨by decide, by omega⟩, sz, 1 * 2 ^ l, rfl, rfl, p0, sz % (1 * 2 ^ l), 0, rfl, rfl, _, rfl, ite2 (fun h1 => ?_) (fun h1 => ?_)⟩
      · have h1' : ¬ sz % (1 * 2 ^ l) = 0 := by simpa using h1
        rw [Nat.one_mul] at h1'
        rw [he.trans (if_pos h1')] at k
        refine ⟨_, rfl, _, rfl, _, rfl, sz, l, rfl, rfl, _, rfl, sz / 2 ^ l, l, rfl, rfl, ⟨Nat.lt_of_le_of_lt (Nat.div_le_self _ _) bd.1, by omega⟩, st, sz / 2 ^ l * 2 ^ l, rfl, rfl, ?_⟩
        exact k
      · have h1' : sz % (1 * 2 ^ l) = 0 := by simpa using h1
        rw [Nat.one_mul] at h1'
        exact ⟨rfl, ⟨_, _, _, _, rfl⟩, he.trans (if_neg (by rw [h1']; exact fun q => q rfl))⟩
    · rintro σ H' ⟨rfl, ⟨v2, v3, v4, v5, rfl⟩, he⟩
      have et : (grT U).drop xs.length = [] := by rw [hxl]; exact List.drop_length
      rw [et] at he
      rw [he] at k
      exact ⟨_, rfl, a, gaL K, dx, fs, _, rfl, ha, c, He.noat_ok (T.fact 118 (f := .noat "Places" "length") rfl), hf.a, k⟩
theorem meL (T : Txt K mg) : Cls K (gaL K) := He.cls_ok (T.fact 116 (f := .cls "Places") rfl)
theorem tot_400 {U : List Un} (o : UB U) {n : Nat} (h : n ≤ tot U) : n < 2 ^ 400 := lt_400 (Nat.le_of_lt (Nat.lt_of_le_of_lt h o.tot))
def sp_Places_place_until (K : PySem.W.Frag) : Sp := fun vs H Q _ => ∃ (x : V) (U : List Un) (l p : Nat), vs = [x, vN l, vN p] ∧ PlV K H x U ∧ UB U ∧ l ≤ 300 ∧ p ≤ tot U ∧ ∀ H', Same H H' → Q (vN (pu l U p)) H'
abbrev n_Places_place_until : List Str := ["self", "level", "position", "found", "group"]
theorem sc_Places_place_until : FnScope n_Places_place_until ["self", "level", "position"] (defScope s_Places_place_until) := ⟨rfl, rfl, rfl, by decide +kernel, rfl, by decide +kernel, by decide +kernel⟩
theorem ok_Places_place_until (T : Txt K mg) : ClM P w K mg base CX0 "Places" "place_until" ["self", "level", "position"] 2 (sp_Places_place_until K) := by
  obtain ⟨fd, F⟩ := T.def_ 54 (d := d_Places_place_until) rfl
  have C_last_place := ok_Places_last_place (P := P) (w := w) (base := base) T
  have C_group_with := ok_Places_group_with (P := P) (w := w) (base := base) T
  refine clm_ok (x := "Places") F (T.fact 116) (T.fact 122) (fun _ _ _ _ _ _ us hl => match us, hl with | [_, _, _], _ => rfl) sc_Places_place_until (fun vs H Q E h => ?_) (fun cdv A outer s H vs Q E hr h => ?_)
  · obtain ⟨x, U, l, p, rfl, _⟩ := h
    rfl
  · obtain ⟨x, U, l, p, rfl, hx, o, hlv, hp, k⟩ := h
    refine ⟨_, (pss_cons (ps_set (i := 3) sc_Places_place_until.nd rfl (Or.inl rfl) (pe_callB (call_min2 rfl) (by rfl) (T.free 95) bt_min (pa_cons (pv 2) (pa_cons (pe_clmK K C_last_place (hr.mono (by decide)) (pv 0) (pa_cons (pv 1) pa_nil)) pa_nil))))
      (pss_cons (ps_set (i := 4) sc_Places_place_until.nd rfl (Or.inl rfl) (pe_clmK K C_group_with (hr.mono (by decide)) (pv 0) (pa_cons (pv 3) pa_nil)))
      (pss_cons (ps_if (pt_cmpR op_isN (pv 4) pe_non (nomark _))
        (pss_one (ps_ret (pv 3)))
        pss_nil)
      (pss_one (ps_ret (pe_op oAdd (pe_ix (ix_tupK K) (pv 4) pe_int (fun _ _ => rfl)) (pe_op oShl (pe_op oShr (pe_op oSub (pv 3) (pe_ix (ix_tupK K) (pv 4) pe_int (fun _ _ => rfl))) (pv 1)) (pv 1)))))))), ?_⟩
    have hx0 := hx
    obtain ⟨a, dx, fs, g, rfl, ha, hf, hg⟩ := hx0
    refine ⟨_, rfl, _, rfl, a, dx, fs, rfl, ha, hf.m2, _, rfl, .ref a, U, l, rfl, hx, o, hlv, (p : Int), ((lpU l 0 U : Nat) : Int), rfl, ?_⟩
    rw [minV]
    refine ⟨_, rfl, a, dx, fs, rfl, ha, hf.m1, _, rfl, .ref a, U, min p (lpU l 0 U), rfl, hx, o, ?_⟩
    unfold pu at k
    cases e : gwU 0 U (min p (lpU l 0 U)) with
    | none =>
      rw [e] at k
      intro H2 s2
      refine ⟨_, rfl, rfl, true, rfl, iteT ?_⟩
      exact ⟨_, rfl, k _ s2⟩
    | some gg =>
      rw [e] at k
      intro H2 q s2 nq hq
      have gl := gwU_le (Nat.zero_le _) e
      have ml : min p (lpU l 0 U) ≤ tot U := Nat.le_trans (Nat.min_le_left _ _) hp
      refine ⟨_, rfl, rfl, false, rfl, iteF ?_⟩
      refine ⟨_, rfl, q, _, _, _, rfl, rfl, SqT.h hq, atI_nat (j := 0) rfl, _, rfl, _, rfl, q, _, _, _, rfl, rfl, SqT.h hq, atI_nat (j := 0) rfl, min p (lpU l 0 U), gg.1, rfl, rfl, gl.1, _, rfl, min p (lpU l 0 U) - gg.1, l, rfl, rfl, _, rfl, (min p (lpU l 0 U) - gg.1) / 2 ^ l, l, rfl, rfl, ⟨tot_400 o (Nat.le_trans (Nat.div_le_self _ _) (Nat.le_trans (Nat.sub_le _ _) ml)), by omega⟩, gg.1, _, rfl, rfl, ?_⟩
      exact k _ s2
def sp_Places_block_end (K : PySem.W.Frag) : Sp := fun vs H Q _ => ∃ (x : V) (U : List Un) (l p : Nat), vs = [x, vN l, vN p] ∧ PlV K H x U ∧ UB U ∧ l ≤ 300 ∧ p < tot U ∧ ∀ H', Same H H' → Q (vN (be l U p)) H'
abbrev n_Places_block_end : List Str := ["self", "level", "position", "group"]
theorem sc_Places_block_end : FnScope n_Places_block_end ["self", "level", "position"] (defScope s_Places_block_end) := ⟨rfl, rfl, rfl, by decide +kernel, rfl, by decide +kernel, by decide +kernel⟩
theorem ok_Places_block_end (T : Txt K mg) : ClM P w K mg base CX0 "Places" "block_end" ["self", "level", "position"] 2 (sp_Places_block_end K) := by
  obtain ⟨fd, F⟩ := T.def_ 55 (d := d_Places_block_end) rfl
  have C_group_with := ok_Places_group_with (P := P) (w := w) (base := base) T
  refine clm_ok (x := "Places") F (T.fact 116) (T.fact 123) (fun _ _ _ _ _ _ us hl => match us, hl with | [_, _, _], _ => rfl) sc_Places_block_end (fun vs H Q E h => ?_) (fun cdv A outer s H vs Q E hr h => ?_)
  · obtain ⟨x, U, l, p, rfl, _⟩ := h
    rfl
  · obtain ⟨x, U, l, p, rfl, hx, o, hlv, hp, k⟩ := h
    refine ⟨_, (pss_cons (ps_set (i := 3) sc_Places_block_end.nd rfl (Or.inl rfl) (pe_clmK K C_group_with (hr.mono (by decide)) (pv 0) (pa_cons (pv 2) pa_nil)))
      (pss_cons (ps_if (pt_cmpR op_isN (pv 3) pe_non (nomark _))
        (pss_one (ps_ret (pe_op oAdd (pv 2) pe_int)))
        pss_nil)
      (pss_one (ps_ret (pe_op oAdd (pe_ix (ix_tupK K) (pv 3) pe_int (fun _ _ => rfl)) (pe_op oShl (pe_op oAdd (pe_op oShr (pe_op oSub (pv 2) (pe_ix (ix_tupK K) (pv 3) pe_int (fun _ _ => rfl))) (pv 1)) pe_int) (pv 1))))))), ?_⟩
    have hx0 := hx
    obtain ⟨a, dx, fs, g, rfl, ha, hf, hg⟩ := hx0
    refine ⟨_, rfl, a, dx, fs, rfl, ha, hf.m1, _, rfl, .ref a, U, p, rfl, hx, o, ?_⟩
    unfold be at k
    cases e : gwU 0 U p with
    | none =>
      rw [e] at k
      intro H2 s2
      refine ⟨_, rfl, rfl, true, rfl, iteT ?_⟩
      exact ⟨_, rfl, p, 1, rfl, rfl, k _ s2⟩
    | some gg =>
      rw [e] at k
      intro H2 q s2 nq hq
      have gl := gwU_le (Nat.zero_le _) e
      refine ⟨_, rfl, rfl, false, rfl, iteF ?_⟩
      have b1 : (p - gg.1) / 2 ^ l + 1 < 2 ^ 400 := tot_400 o (by have := Nat.div_le_self (p - gg.1) (2 ^ l); omega)
      refine ⟨_, rfl, q, _, _, _, rfl, rfl, SqT.h hq, atI_nat (j := 0) rfl, _, rfl, _, rfl, q, _, _, _, rfl, rfl, SqT.h hq, atI_nat (j := 0) rfl, p, gg.1, rfl, rfl, gl.1, _, rfl, p - gg.1, l, rfl, rfl, (p - gg.1) / 2 ^ l, 1, rfl, rfl, _, rfl, (p - gg.1) / 2 ^ l + 1, l, rfl, rfl, ⟨b1, by omega⟩, gg.1, _, rfl, rfl, ?_⟩
      exact k _ s2
/-- what inner_level answers -/
def ilQ (H : Hp) (Q : VK) : Option Nat → Prop
  | none => ∀ H', Same H H' → Q .non H'
  | some v => v ≤ 250 → ∀ H', Same H H' → Q (vN v) H'
def mu3 (σ : L2.St) : Nat := match σ with
  | [_, _, _, some (.int l)] => 300 - l.toNat
  | _ => 0
def sp_Places_inner_level (K : PySem.W.Frag) : Sp := fun vs H Q _ => ∃ (x : V) (U : List Un) (p : Nat), vs = [x, vN p] ∧ PlV K H x U ∧ UB U ∧ p < tot U ∧ ilQ H Q (il U p)
abbrev n_Places_inner_level : List Str := ["self", "position", "group", "level"]
theorem sc_Places_inner_level : FnScope n_Places_inner_level ["self", "position"] (defScope s_Places_inner_level) := ⟨rfl, rfl, rfl, by decide +kernel, rfl, by decide +kernel, by decide +kernel⟩
theorem ok_Places_inner_level (T : Txt K mg) : ClM P w K mg base CX0 "Places" "inner_level" ["self", "position"] 2 (sp_Places_inner_level K) := by
  obtain ⟨fd, F⟩ := T.def_ 56 (d := d_Places_inner_level) rfl
  have C_group_with := ok_Places_group_with (P := P) (w := w) (base := base) T
  refine clm_ok (x := "Places") F (T.fact 116) (T.fact 124) (fun _ _ _ _ _ _ us hl => match us, hl with | [_, _], _ => rfl) sc_Places_inner_level (fun vs H Q E h => ?_) (fun cdv A outer s H vs Q E hr h => ?_)
  · obtain ⟨x, U, p, rfl, _⟩ := h
    rfl
  · obtain ⟨x, U, p, rfl, hx, o, hp, k⟩ := h
    refine ⟨_, (pss_cons (ps_set (i := 2) sc_Places_inner_level.nd rfl (Or.inl rfl) (pe_clmK K C_group_with (hr.mono (by decide)) (pv 0) (pa_cons (pv 1) pa_nil)))
      (pss_cons (ps_if (PW.pt (pw_or (pt_cmpR op_isN (pv 2) pe_non (nomark _)) (pw_or1 (pt_cmpR oEq (pe_ix (ix_tupK K) (pv 2) pe_int (fun _ _ => rfl)) (pv 1) (nomark _)))))
        (pss_one (ps_ret pe_non))
        pss_nil)
      (pss_cons (ps_set (i := 3) sc_Places_inner_level.nd rfl (Or.inl rfl) pe_int)
      (pss_cons (ps_while PassesOwn.never (pt_cmpR oEq (pe_op oMod (pe_op oSub (pv 1) (pe_ix (ix_tupK K) (pv 2) pe_int (fun _ _ => rfl))) (pe_op oShl pe_int (pv 3))) pe_int (nomark _))
        (pss_one (ps_aug (i := 3) sc_Places_inner_level.nd rfl (Or.inl rfl) pe_int iAdd)))
      (pss_one (ps_ret (pv 3))))))), ?_⟩
    have hx0 := hx
    obtain ⟨a, dx, fs, g, rfl, ha, hf, hg⟩ := hx0
    refine ⟨_, rfl, a, dx, fs, rfl, ha, hf.m1, _, rfl, .ref a, U, p, rfl, hx, o, ?_⟩
    unfold il at k
    cases e : gwU 0 U p with
    | none =>
      rw [e] at k
      intro H2 s2
      refine ⟨_, rfl, rfl, true, rfl, iteT ?_⟩
      exact k _ s2
    | some gg =>
      rw [e] at k
      intro H2 q s2 nq hq
      have gl := gwU_le (Nat.zero_le _) e
      refine ⟨_, rfl, rfl, false, rfl, ?_⟩
      refine iteF ?_
      refine ⟨_, rfl, q, _, _, _, rfl, rfl, SqT.h hq, atI_nat (j := 0) rfl, _, rfl, gg.1, p, rfl, rfl, _, rfl, ite2 (fun h1 => ?_) (fun h1 => ?_)⟩
      · have h1' : gg.1 = p := of_decide_eq_true h1
        have ek : ilv (some gg) p = none := if_pos h1'
        rw [ek] at k
        exact k _ s2
      · have h1' : ¬ gg.1 = p := fun z => h1 (decide_eq_true z)
        have ek : ilv (some gg) p = some (v2 (p - gg.1)) := if_neg h1'
        rw [ek] at k
        have d0 : 0 < p - gg.1 := by omega
        have dl : p - gg.1 < 2 ^ 250 := Nat.lt_of_le_of_lt (Nat.sub_le _ _) (Nat.lt_trans hp o.tot)
        have vb : ∀ l, 2 ^ l ∣ p - gg.1 → l ≤ 250 := fun l hd => by
          have h2 := Nat.le_of_dvd d0 hd
          have h3 : 2 ^ l < 2 ^ 250 := Nat.lt_of_le_of_lt h2 dl
          exact Nat.le_of_lt ((Nat.pow_lt_pow_iff_right (by decide)).mp h3)
        refine while_by (fun σ H' => H' = H2 ∧ ∃ l : Nat, σ = [some (.ref a), some (vN p), some (.ref q), some (vN l)] ∧ 2 ^ l ∣ p - gg.1) (fun σ _ => mu3 σ) ⟨rfl, 0, rfl, ⟨_, (Nat.one_mul _).symm⟩⟩ ?_ (fun σ H' Q Q' f h => ?_)
        · rintro σ H' ⟨rfl, l, rfl, hd⟩
          have hl := vb l hd
          have p0 : 0 < 2 * 2 ^ l := Nat.mul_pos (by decide) (Nat.two_pow_pos l)
          refine ⟨_, rfl, _, rfl, q, _, _, _, rfl, rfl, SqT.h hq, atI_nat (j := 0) rfl, p, gg.1, rfl, rfl, gl.1, _, rfl, 2, l, rfl, rfl, ⟨by decide, by omega⟩, p - gg.1, 2 * 2 ^ l, rfl, rfl, p0, (p - gg.1) % (2 * 2 ^ l), 0, rfl, rfl, _, rfl, ite2 (fun h2 => ?_) (fun h2 => ?_)⟩
          · have h2' : (p - gg.1) % (2 * 2 ^ l) = 0 := of_decide_eq_true h2
            have hd2 : 2 ^ (l + 1) ∣ p - gg.1 := by rw [Nat.pow_succ, Nat.mul_comm]; exact Nat.dvd_of_mod_eq_zero h2'
            have hl2 := vb _ hd2
            refine ⟨_, rfl, l, 1, rfl, rfl, ⟨rfl, l + 1, rfl, hd2⟩, ?_⟩
            show 300 - ((l + 1 : Nat) : Int).toNat < 300 - ((l : Nat) : Int).toNat
            omega
          · have h2' : ¬ (p - gg.1) % (2 * 2 ^ l) = 0 := fun z => h2 (decide_eq_true z)
            have : l = v2 (p - gg.1) := v2_uniq d0 hd fun z => h2' (Nat.mod_eq_zero_of_dvd (by rw [Nat.pow_succ, Nat.mul_comm] at z; exact z))
            rw [← this] at k
            exact ⟨_, rfl, k hl _ s2⟩
        · obtain ⟨v1, e1, v2', e2, q1, q2, q3, q4, q5, q6, q7, q8, n1, m1, e3, e4, c1, v3, e5, n2, m2, e6, e7, c2, n3, m3, e8, e9, c3, n4, m4, e10, e11, b, e12, r⟩ := h
          exact ⟨v1, e1, v2', e2, q1, q2, q3, q4, q5, q6, q7, q8, n1, m1, e3, e4, c1, v3, e5, n2, m2, e6, e7, c2, n3, m3, e8, e9, c3, n4, m4, e10, e11, b, e12, f _ _ r⟩
end
end Sl


end
section
set_option Elab.async false
set_option linter.all false
set_option maxRecDepth 100000
set_option maxHeartbeats 4000000
namespace Sl
open PySem PySem.Spec PyProof.Rows L2
/-! ### comprehensions over anything -/
def TurnG {α : Type} (R : Hp → V → α → Prop) (f : Option α) (H : Hp) (Qc : V → Hp → Prop) (Qn : Hp → Prop) : Prop := match f with
  | some r => ∀ v H', Same H H' → R H' v r → Qc v H'
  | none => ∀ H', Same H H' → Qn H'
section
variable {α : Type} {R : Hp → V → α → Prop} {g : TG} {tt : TT} {te : TE} {vs : List Nat} {σ : L2.St} {H1 : Hp} {D : Addr} {J : It} {n : Nat} {Qd : Hp → Prop}
theorem lc_gl (S : Stab R) (f : Nat → Option α) (hn : n ≤ 1000000) (nD : H1 D = none) (hgo : ∀ i H, i < n → Same H1 H → J.go i H) (hst : ∀ H, Same H1 H → J.stop n H)
    (hel : ∀ i x H H', i < n → Same H1 H → J.yld i H x H' → Same H H' ∧ ∀ Qc Qn, TurnG R (f i) H' Qc Qn → El g tt te vs σ x H' Qc Qn)
    (hd : ∀ H, Same H1 H → GL R H D ((List.range n).filterMap f) → Qd H) :
    ∃ W : Nat → Nat → Hp → Prop, (∃ m, W 0 m (L2.upd H1 D (.lst []))) ∧ ∀ i m H, W i m H →
      (J.stop i H ∧ Qd H) ∨ (J.go i H ∧ ∃ Nx : Hp → Prop, (∀ H', Nx H' → ∃ m', m' < m ∧ W (i + 1) m' H') ∧ ∀ x H', J.yld i H x H' → g x (wipe σ vs) H' fun σ2 H2 => wipe σ2 vs = wipe σ vs ∧ tt σ2 H2 fun b H3 =>
        if b = true then te σ2 H3 fun y H4 => ∃ acc, H4 D = some (.lst acc) ∧ acc.length < sizeLine ∧ Nx (L2.upd H4 D (.lst (acc ++ [y]))) else Nx H3) := by
  refine ⟨fun i m H => m = n - i ∧ i ≤ n ∧ Same H1 H ∧ GL R H D ((List.range i).filterMap f), ⟨n, by simp, Nat.zero_le _, Same.new nD, GL.nil upd_same⟩, ?_⟩
  rintro i m H ⟨rfl, hi, s, l⟩
  by_cases hlt : i < n
  · refine .inr ⟨hgo i H hlt s, fun H' => Same H1 H' ∧ GL R H' D ((List.range (i + 1)).filterMap f), fun H' p' => ⟨n - (i + 1), by omega, rfl, hlt, p'⟩, fun x H' y => ?_⟩
    obtain ⟨s1, ev⟩ := hel i x H H' hlt s y
    refine ev _ _ ?_
    have l1 := l.same S s1
    have s2 := s.trans s1
    rw [range_fm]
    unfold TurnG
    cases e : f i with
    | none =>
      intro H2 s3
      refine ⟨s2.trans s3, ?_⟩
      show GL R H2 D (_ ++ [])
      rw [List.append_nil]
      exact l1.same S s3
    | some r =>
      intro v H2 s3 hv
      have l2 := l1.same S s3
      obtain ⟨ys, hy, hlen⟩ := l2.lst
      refine ⟨ys, hy, ?_, Same.mut (s2.trans s3) nD, l2.push S hy hv⟩
      rw [hlen]
      exact Nat.lt_of_le_of_lt (Nat.le_trans (fm_len f i) (by omega)) (slt (Nat.le_refl 1000000))
  · have e : i = n := by omega
    subst e
    exact .inl ⟨hst H s, hd H s l⟩
variable {K : PySem.W.Frag} {a : Addr} {xs : List V}
theorem lcL_gl (S : Stab R) (f : Nat → Option α) (hn : xs.length ≤ 1000000) (nD : H1 D = none) (hs : SqL K H1 a xs)
    (hel : ∀ i x H, xs[i]? = some x → Same H1 H → ∀ Qc Qn, TurnG R (f i) H Qc Qn → El g tt te vs σ x H Qc Qn) (hd : ∀ H, Same H1 H → GL R H D ((List.range xs.length).filterMap f) → Qd H) :
    ∃ W : Nat → Nat → Hp → Prop, (∃ m, W 0 m (L2.upd H1 D (.lst []))) ∧ ∀ i m H, W i m H →
      ((Itl K a).stop i H ∧ Qd H) ∨ ((Itl K a).go i H ∧ ∃ Nx : Hp → Prop, (∀ H', Nx H' → ∃ m', m' < m ∧ W (i + 1) m' H') ∧ ∀ x H', (Itl K a).yld i H x H' → g x (wipe σ vs) H' fun σ2 H2 => wipe σ2 vs = wipe σ vs ∧ tt σ2 H2 fun b H3 =>
        if b = true then te σ2 H3 fun y H4 => ∃ acc, H4 D = some (.lst acc) ∧ acc.length < sizeLine ∧ Nx (L2.upd H4 D (.lst (acc ++ [y]))) else Nx H3) :=
  lc_gl S f hn nD (fun i H hi s => ⟨xs, xs[i], s.seq hs, by simp [hi]⟩) (fun H s => ⟨xs, s.seq hs, Nat.le_refl _⟩) (fun i x H H' hi s y => by
    obtain ⟨rfl, y⟩ := y
    exact ⟨Same.refl _, hel i x _ (y xs (s.seq hs)) s⟩) hd
end
/-! ### facts -/
def sLe : Str := "least"
def sMo : Str := "most"
def sSt : Str := "start"
def sIn : Str := "inside"
def rowF : Fact → List V
  | .least p l => [.str sLe, vN p, vN l]
  | .most p l => [.str sMo, vN p, vN l]
  | .start p => [.str sSt, vN p]
  | .inside p => [.str sIn, vN p]
theorem rowF_cases {U : List Un} {f : Fact} (h : FOk U f) : (∃ z q l, rowF f = [.str z, vN q, vN l] ∧ (z = sLe ∨ z = sMo) ∧ q < tot U ∧ l ≤ 200) ∨ ∃ z q, rowF f = [.str z, vN q] ∧ (z = sSt ∨ z = sIn) ∧ q < tot U := by
  cases f with
  | least p l => exact .inl ⟨_, _, _, rfl, .inl rfl, h.1, h.2⟩
  | most p l => exact .inl ⟨_, _, _, rfl, .inr rfl, h.1, h.2⟩
  | start p => exact .inr ⟨_, _, rfl, .inl rfl, h.1⟩
  | inside p => exact .inr ⟨_, _, rfl, .inr rfl, h.1⟩
def BdV (H : Hp) (x : V) : Bd → Prop
  | none => x = .non
  | some (lo, p, k) => ∃ t, x = .ref t ∧ H t = some (.tup [.bl lo, vN p, vN k])
theorem stabBd : Stab BdV where
  same := fun {H H' x p} s h => by
    cases p with
    | none => exact h
    | some y => obtain ⟨lo, q, k⟩ := y; obtain ⟨t, e, h⟩ := h; exact ⟨t, e, s _ _ h⟩
  mod := fun {H H' l ys x p} m hl h => by
    cases p with
    | none => exact h
    | some y => obtain ⟨lo, q, k⟩ := y; obtain ⟨t, e, h⟩ := h; exact ⟨t, e, m _ _ (ne_lt hl h) h⟩
section
variable {P : Program} {w : World} {K : PySem.W.Frag} {mg : Str → Option Value} {base : Heap}
def sp_is_fact : Sp := fun vs H Q _ => ∃ (t : Addr) (f : Fact) (U : List Un), vs = [.ref t, vN (tot U)] ∧ H t = some (.tup (rowF f)) ∧ FOk U f ∧ ∀ H', Same H H' → Q (.bl true) H'
abbrev n_is_fact : List Str := ["value", "length"]
theorem sc_is_fact : FnScope n_is_fact ["value", "length"] (defScope s_is_fact) := ⟨rfl, rfl, rfl, by decide +kernel, rfl, by decide +kernel, by decide +kernel⟩
theorem ok_is_fact (T : Txt K mg) : Cl P w K mg base CX0 "is_fact" ["value", "length"] 2 [] sp_is_fact := by
  obtain ⟨fd, F⟩ := T.def_ 59 (d := d_is_fact) rfl
  have C_is_integer3 := ok_is_integer3 (P := P) (w := w) (base := base) T
  refine cl_ok F (T.glo 50) (fun _ _ _ _ _ _ us hl => match us, hl with | [_, _], _ => rfl) sc_is_fact (fun vs H Q E h => ?_) (fun cdv A outer s H vs Q E hr h => ?_)
  · obtain ⟨t, f, U, rfl, _⟩ := h
    rfl
  · obtain ⟨t, f, U, rfl, ht, ho, k⟩ := h
    refine ⟨_, (pss_cons (ps_if (PW.pt (pw_or (pt_not (pt_val (pe_callB (call_isiTK K) (by rfl) (T.free 84) bt_isinstance (pa_cons (pv 0) (pa_cons (pe_tup (pa_cons (pe_ty (T.free 88) bt_list) (pa_cons (pe_ty (T.free 89) bt_tuple) pa_nil))) pa_nil))))) (pw_or (pt_cmpR (op_notIn_seqK K) (pe_callB (call_len_seqK K) (by rfl) (T.free 83) bt_len (pa_cons (pv 0) pa_nil)) (pe_tup (pa_cons pe_int (pa_cons pe_int pa_nil))) rfl) (pw_or1 (pt_not (pt_val (pe_callB (call_isiK K) (by rfl) (T.free 84) bt_isinstance (pa_cons (pe_ix (ix_tupK K) (pv 0) pe_int (fun _ _ => rfl)) (pa_cons (pe_ty (T.free 86) bt_str) pa_nil)))))))))
        (pss_one (ps_ret pe_bl))
        pss_nil)
      (pss_cons (ps_if (pt_not (pt_val (pe_cl C_is_integer3 (hr.mono (by decide)) (pa_cons (pe_ix (ix_tupK K) (pv 0) pe_int (fun _ _ => rfl)) (pa_cons pe_int (pa_cons (pe_op oSub (pv 1) pe_int) pa_nil))))))
        (pss_one (ps_ret pe_bl))
        pss_nil)
      (pss_cons (ps_if (pt_cmpR oEq (pe_callB (call_len_seqK K) (by rfl) (T.free 83) bt_len (pa_cons (pv 0) pa_nil)) pe_int (nomark _))
        (pss_one (ps_ret (pe_cmpR (op_in_seqK K) (pe_ix (ix_tupK K) (pv 0) pe_int (fun _ _ => rfl)) (pe_tup (pa_cons pe_str (pa_cons pe_str pa_nil))) rfl)))
        pss_nil)
      (pss_one (ps_ret (pe_and (pe_cmpR (op_in_seqK K) (pe_ix (ix_tupK K) (pv 0) pe_int (fun _ _ => rfl)) (pe_tup (pa_cons pe_str (pa_cons pe_str pa_nil))) rfl) (pe_one (pe_cl C_is_integer3 (hr.mono (by decide)) (pa_cons (pe_ix (ix_tupK K) (pv 0) pe_int (fun _ _ => rfl)) (pa_cons pe_int (pa_cons (pe_gi (T.int 102)) pa_nil))))))))))), ?_⟩
    have hp := ho.1
    refine ⟨_, rfl, z2, fun p np => ?_⟩
    have s1 : Same H (upd H p (.tup [.ty "list", .ty "tuple"])) := Same.new np
    have ht1 := s1 _ _ ht
    refine ⟨_, p, _, _, _, true, rfl, upd_same, .cons (.ty _) (.cons (.ty _) .nil), .base (.tup ht1), ka_t, true, rfl, ?_⟩
    refine iteF ?_
    have lb : ∀ n : Nat, n < tot U → inB n 0 (some (tot U - 1)) = true := fun n hn => by
      show (decide (0 ≤ n) && decide (n ≤ tot U - 1)) = true
      rw [decide_eq_true (Nat.zero_le n), decide_eq_true (show n ≤ tot U - 1 by omega)]; rfl
    have lb2 : ∀ n : Nat, n ≤ 200 → inB n 0 (some 200) = true := fun n hn => by
      show (decide (0 ≤ n) && decide (n ≤ 200)) = true
      rw [decide_eq_true (Nat.zero_le n), decide_eq_true hn]; rfl
    rcases rowF_cases ho with ⟨z, q, l, er, hz, hq, hl⟩ | ⟨z, q, er, hz, hq⟩
    · rw [er] at ht1
      refine ⟨_, rfl, t, _, rfl, .inr (SqT.h ht1), z2, fun u nu => ⟨u, _, rfl, .inr (SqT.h upd_same), rfl, rfl, false, rfl, iteF ?_⟩⟩
      have s2 : Same (upd H p (.tup [.ty "list", .ty "tuple"])) (upd (upd H p (.tup [.ty "list", .ty "tuple"])) u (.tup [.int 2, .int 3])) := Same.new nu
      have ht2 := s2 _ _ ht1
      refine ⟨_, rfl, t, _, _, _, rfl, rfl, SqT.h ht2, atI_nat (j := 0) rfl, _, _, _, _, true, rfl, .ty _, .base (.str _), kit_ty kb_str, true, rfl, iteF ?_⟩
      refine ⟨_, rfl, t, _, _, _, rfl, rfl, SqT.h ht2, atI_nat (j := 1) rfl, _, rfl, tot U, 1, rfl, rfl, by omega, q, 0, some (tot U - 1), rfl, true, congrArg V.bl (lb q hq), iteF ?_⟩
      refine ⟨_, rfl, t, _, rfl, .inr (SqT.h ht2), 3, 2, rfl, rfl, false, rfl, iteF ?_⟩
      refine ⟨_, rfl, t, _, _, _, rfl, rfl, SqT.h ht2, atI_nat (j := 0) rfl, z2, fun v nv => ⟨v, _, rfl, .inr (SqT.h upd_same), rfl, rfl, true, congrArg V.bl (by rcases hz with rfl | rfl <;> decide), iteT ?_⟩⟩
      have s3 : Same (upd (upd H p (.tup [.ty "list", .ty "tuple"])) u (.tup [.int 2, .int 3])) (upd (upd (upd H p (.tup [.ty "list", .ty "tuple"])) u (.tup [.int 2, .int 3])) v (.tup [.str sLe, .str sMo])) := Same.new nv
      have ht3 := s3 _ _ ht2
      refine ⟨_, rfl, t, _, _, _, rfl, rfl, SqT.h ht3, atI_nat (j := 2) rfl, l, 0, some 200, rfl, ?_⟩
      show Q (.bl (inB l 0 (some 200))) _
      rw [lb2 l hl]
      exact k _ ((s1.trans s2).trans s3)
    · rw [er] at ht1
      refine ⟨_, rfl, t, _, rfl, .inr (SqT.h ht1), z2, fun u nu => ⟨u, _, rfl, .inr (SqT.h upd_same), rfl, rfl, false, rfl, iteF ?_⟩⟩
      have s2 : Same (upd H p (.tup [.ty "list", .ty "tuple"])) (upd (upd H p (.tup [.ty "list", .ty "tuple"])) u (.tup [.int 2, .int 3])) := Same.new nu
      have ht2 := s2 _ _ ht1
      refine ⟨_, rfl, t, _, _, _, rfl, rfl, SqT.h ht2, atI_nat (j := 0) rfl, _, _, _, _, true, rfl, .ty _, .base (.str _), kit_ty kb_str, true, rfl, iteF ?_⟩
      refine ⟨_, rfl, t, _, _, _, rfl, rfl, SqT.h ht2, atI_nat (j := 1) rfl, _, rfl, tot U, 1, rfl, rfl, by omega, q, 0, some (tot U - 1), rfl, true, congrArg V.bl (lb q hq), iteF ?_⟩
      refine ⟨_, rfl, t, _, rfl, .inr (SqT.h ht2), 2, 2, rfl, rfl, true, rfl, iteT ?_⟩
      refine ⟨_, rfl, t, _, _, _, rfl, rfl, SqT.h ht2, atI_nat (j := 0) rfl, z2, fun v nv => ⟨v, _, rfl, .inr (SqT.h upd_same), rfl, rfl, ?_⟩⟩
      have s3 : Same (upd (upd H p (.tup [.ty "list", .ty "tuple"])) u (.tup [.int 2, .int 3])) (upd (upd (upd H p (.tup [.ty "list", .ty "tuple"])) u (.tup [.int 2, .int 3])) v (.tup [.str sSt, .str sIn])) := Same.new nv
      have e : inV (.str z) [.str sSt, .str sIn] = true := by rcases hz with rfl | rfl <;> decide
      show Q (.bl (inV (.str z) [.str sSt, .str sIn])) _
      rw [e]
      exact k _ ((s1.trans s2).trans s3)
/-! ### bound_of -/
def sp_bound_of (K : PySem.W.Frag) : Sp := fun vs H Q _ => ∃ (x : V) (t : Addr) (f : Fact) (U : List Un), vs = [x, .ref t] ∧ PlV K H x U ∧ UB U ∧ H t = some (.tup (rowF f)) ∧ FOk U f ∧ ∀ H' v, Same H H' → BdV H' v (bdF U f) → Q v H'
abbrev n_bound_of : List Str := ["places", "fact", "level"]
theorem sc_bound_of : FnScope n_bound_of ["places", "fact"] (defScope s_bound_of) := ⟨rfl, rfl, rfl, by decide +kernel, rfl, by decide +kernel, by decide +kernel⟩
theorem ok_bound_of (T : Txt K mg) : Cl P w K mg base CX0 "bound_of" ["places", "fact"] 3 [] (sp_bound_of K) := by
  obtain ⟨fd, F⟩ := T.def_ 60 (d := d_bound_of) rfl
  have C_inner_level := ok_Places_inner_level (P := P) (w := w) (base := base) T
  refine cl_ok F (T.glo 51) (fun _ _ _ _ _ _ us hl => match us, hl with | [_, _], _ => rfl) sc_bound_of (fun vs H Q E h => ?_) (fun cdv A outer s H vs Q E hr h => ?_)
  · obtain ⟨x, t, f, U, rfl, _⟩ := h
    rfl
  · obtain ⟨x, t, f, U, rfl, hx, o, ht, ho, k⟩ := h
    refine ⟨_, (pss_cons (ps_if (pt_cmpR (op_in_seqK K) (pe_ix (ix_tupK K) (pv 1) pe_int (fun _ _ => rfl)) (pe_tup (pa_cons pe_str (pa_cons pe_str pa_nil))) rfl)
        (pss_one (ps_ret (pe_tup (pa_cons (pe_cmpR oEqS (pe_ix (ix_tupK K) (pv 1) pe_int (fun _ _ => rfl)) pe_str (nomark _)) (pa_cons (pe_ix (ix_tupK K) (pv 1) pe_int (fun _ _ => rfl)) (pa_cons (pe_ix (ix_tupK K) (pv 1) pe_int (fun _ _ => rfl)) pa_nil))))))
        pss_nil)
      (pss_cons (ps_set (i := 2) sc_bound_of.nd rfl (Or.inl rfl) (pe_clmK K C_inner_level (hr.mono (by decide)) (pv 0) (pa_cons (pe_ix (ix_tupK K) (pv 1) pe_int (fun _ _ => rfl)) pa_nil)))
      (pss_cons (ps_if (pt_cmpR oEqS (pe_ix (ix_tupK K) (pv 1) pe_int (fun _ _ => rfl)) pe_str (nomark _))
        (pss_one (ps_ret (pe_ifExp (pt_cmpR op_isN (pv 2) pe_non (nomark _)) pe_non (pe_tup (pa_cons pe_bl (pa_cons (pe_ix (ix_tupK K) (pv 1) pe_int (fun _ _ => rfl)) (pa_cons (pv 2) pa_nil)))))))
        pss_nil)
      (pss_one (ps_ret (pe_tup (pa_cons pe_bl (pa_cons (pe_ix (ix_tupK K) (pv 1) pe_int (fun _ _ => rfl)) (pa_cons (pe_ifExp (pt_cmpR op_isN (pv 2) pe_non (nomark _)) (pe_op oAdd (pe_gi (T.int 102)) pe_int) (pe_op oAdd (pv 2) pe_int)) pa_nil))))))))), ?_⟩
    have hp := ho.1
    have hx0 := hx
    obtain ⟨a, dx, fs, g, rfl, ha, hf, hg⟩ := hx0
    cases f with
    | least q l =>
      have ht : H t = some (.tup [.str sLe, vN q, vN l]) := ht
      refine ⟨_, rfl, t, _, _, _, rfl, rfl, SqT.h ht, atI_nat (j := 0) rfl, z2, fun v nv => ⟨v, _, rfl, .inr (SqT.h upd_same), rfl, rfl, true, congrArg V.bl (by decide), iteT ?_⟩⟩
      have s1 : Same H (upd H v (.tup [.str sLe, .str sMo])) := Same.new nv
      have ht1 := s1 _ _ ht
      refine ⟨_, rfl, t, _, _, _, rfl, rfl, SqT.h ht1, atI_nat (j := 0) rfl, sLe, sLe, rfl, rfl, _, rfl, t, _, _, _, rfl, rfl, SqT.h ht1, atI_nat (j := 1) rfl, _, rfl, t, _, _, _, rfl, rfl, SqT.h ht1, atI_nat (j := 2) rfl, z3, fun r nr => ?_⟩
      exact k _ _ (s1.trans (Same.new nr)) ⟨r, rfl, upd_same⟩
    | most q l =>
      have ht : H t = some (.tup [.str sMo, vN q, vN l]) := ht
      refine ⟨_, rfl, t, _, _, _, rfl, rfl, SqT.h ht, atI_nat (j := 0) rfl, z2, fun v nv => ⟨v, _, rfl, .inr (SqT.h upd_same), rfl, rfl, true, congrArg V.bl (by decide), iteT ?_⟩⟩
      have s1 : Same H (upd H v (.tup [.str sLe, .str sMo])) := Same.new nv
      have ht1 := s1 _ _ ht
      refine ⟨_, rfl, t, _, _, _, rfl, rfl, SqT.h ht1, atI_nat (j := 0) rfl, sMo, sLe, rfl, rfl, _, rfl, t, _, _, _, rfl, rfl, SqT.h ht1, atI_nat (j := 1) rfl, _, rfl, t, _, _, _, rfl, rfl, SqT.h ht1, atI_nat (j := 2) rfl, z3, fun r nr => ?_⟩
      exact k _ _ (s1.trans (Same.new nr)) ⟨r, rfl, upd_same⟩
    | start q =>
      have ht : H t = some (.tup [.str sSt, vN q]) := ht
      refine ⟨_, rfl, t, _, _, _, rfl, rfl, SqT.h ht, atI_nat (j := 0) rfl, z2, fun v nv => ⟨v, _, rfl, .inr (SqT.h upd_same), rfl, rfl, false, congrArg V.bl (by decide), iteF ?_⟩⟩
      have s1 : Same H (upd H v (.tup [.str sLe, .str sMo])) := Same.new nv
      have ht1 := s1 _ _ ht
      have hx1 := hx.same s1
      refine ⟨_, rfl, a, dx, fs, rfl, s1 _ _ ha, hf.m5, _, rfl, t, _, _, _, rfl, rfl, SqT.h ht1, atI_nat (j := 1) rfl, .ref a, U, q, rfl, hx1, o, hp, ?_⟩
      have kk : ∀ H' v, Same H H' → BdV H' v ((il U q).map fun v => (false, q, v)) → Q v H' := k
      cases e : il U q with
      | none =>
        rw [e] at kk
        intro H2 s2
        refine ⟨_, rfl, t, _, _, _, rfl, rfl, SqT.h (s2 _ _ ht1), atI_nat (j := 0) rfl, sSt, sSt, rfl, rfl, true, rfl, iteT ?_⟩
        refine ⟨_, rfl, rfl, true, rfl, iteT ?_⟩
        exact kk _ _ (s1.trans s2) rfl
      | some n =>
        rw [e] at kk
        intro _ H2 s2
        refine ⟨_, rfl, t, _, _, _, rfl, rfl, SqT.h (s2 _ _ ht1), atI_nat (j := 0) rfl, sSt, sSt, rfl, rfl, true, rfl, iteT ?_⟩
        refine ⟨_, rfl, rfl, false, rfl, iteF ?_⟩
        refine ⟨_, rfl, t, _, _, _, rfl, rfl, SqT.h (s2 _ _ ht1), atI_nat (j := 1) rfl, _, rfl, z3, fun r nr => ?_⟩
        exact kk _ _ ((s1.trans s2).trans (Same.new nr)) ⟨r, rfl, upd_same⟩
    | inside q =>
      have ht : H t = some (.tup [.str sIn, vN q]) := ht
      refine ⟨_, rfl, t, _, _, _, rfl, rfl, SqT.h ht, atI_nat (j := 0) rfl, z2, fun v nv => ⟨v, _, rfl, .inr (SqT.h upd_same), rfl, rfl, false, congrArg V.bl (by decide), iteF ?_⟩⟩
      have s1 : Same H (upd H v (.tup [.str sLe, .str sMo])) := Same.new nv
      have ht1 := s1 _ _ ht
      have hx1 := hx.same s1
      refine ⟨_, rfl, a, dx, fs, rfl, s1 _ _ ha, hf.m5, _, rfl, t, _, _, _, rfl, rfl, SqT.h ht1, atI_nat (j := 1) rfl, .ref a, U, q, rfl, hx1, o, hp, ?_⟩
      have kk : ∀ H' v, Same H H' → BdV H' v (some (true, q, match il U q with | none => 201 | some v => v + 1)) → Q v H' := k
      cases e : il U q with
      | none =>
        rw [e] at kk
        intro H2 s2
        refine ⟨_, rfl, t, _, _, _, rfl, rfl, SqT.h (s2 _ _ ht1), atI_nat (j := 0) rfl, sIn, sSt, rfl, rfl, false, rfl, iteF ?_⟩
        refine ⟨_, rfl, t, _, _, _, rfl, rfl, SqT.h (s2 _ _ ht1), atI_nat (j := 1) rfl, _, rfl, rfl, true, rfl, iteT ?_⟩
        refine ⟨200, 1, rfl, rfl, z3, fun r nr => ?_⟩
        exact kk _ _ ((s1.trans s2).trans (Same.new nr)) ⟨r, rfl, upd_same⟩
      | some n =>
        rw [e] at kk
        intro _ H2 s2
        refine ⟨_, rfl, t, _, _, _, rfl, rfl, SqT.h (s2 _ _ ht1), atI_nat (j := 0) rfl, sIn, sSt, rfl, rfl, false, rfl, iteF ?_⟩
        refine ⟨_, rfl, t, _, _, _, rfl, rfl, SqT.h (s2 _ _ ht1), atI_nat (j := 1) rfl, _, rfl, rfl, false, rfl, iteF ?_⟩
        refine ⟨_, rfl, n, 1, rfl, rfl, z3, fun r nr => ?_⟩
        exact kk _ _ ((s1.trans s2).trans (Same.new nr)) ⟨r, rfl, upd_same⟩
end
end Sl


end
section
set_option Elab.async false
set_option linter.all false
set_option maxRecDepth 100000
set_option maxHeartbeats 4000000
namespace Sl
open PySem PySem.Spec PyProof.Rows L2
/-! ### an object's fields change -/
section
variable {H H' : Hp} {x C dx : Addr} {fs : List (Str × V)}
theorem LT.modI {l : Addr} {rows : List (List V)} (h : LT H l rows) (hx : H x = some (.ins C dx fs)) (m : Mod x H H') : LT H' l rows := by
  obtain ⟨xs, h1, h2⟩ := h
  refine ⟨xs, m _ _ (by rintro rfl; rw [hx] at h1; cases h1) h1, L2.Paired.mapP h2 fun y r q => ?_⟩
  obtain ⟨t, e1, e2⟩ := q
  exact ⟨t, e1, m _ _ (by rintro rfl; rw [hx] at e2; cases e2) e2⟩
theorem BdV.modI {v : V} {b : Bd} (h : BdV H v b) (hx : H x = some (.ins C dx fs)) (m : Mod x H H') : BdV H' v b := by
  cases b with
  | none => exact h
  | some y =>
    obtain ⟨lo, p, k⟩ := y
    obtain ⟨t, e1, e2⟩ := h
    exact ⟨t, e1, m _ _ (by rintro rfl; rw [hx] at e2; cases e2) e2⟩
theorem BLmodI {l : Addr} {bs : List Bd} (h : GL BdV H l bs) (hx : H x = some (.ins C dx fs)) (m : Mod x H H') : GL BdV H' l bs := by
  obtain ⟨xs, h1, h2⟩ := h
  exact ⟨xs, m _ _ (by rintro rfl; rw [hx] at h1; cases h1) h1, L2.Paired.mapP h2 fun y r q => BdV.modI q hx m⟩
theorem PlV.modI {K : PySem.W.Frag} {y : V} {U : List Un} (h : PlV K H y U) (ne : y ≠ .ref x) (hx : H x = some (.ins C dx fs)) (m : Mod x H H') : PlV K H' y U := by
  obtain ⟨a, dx', gs, g, rfl, h1, h2, h3⟩ := h
  exact ⟨a, dx', gs, g, rfl, m _ _ (fun z => ne (by rw [z])) h1, h2, h3.modI hx m⟩
end
/-- a Bounds -/
def gaB (K : PySem.W.Frag) : Addr := He.ga K "Bounds"
structure BoFs (fs : List (Str × V)) (px : V) (bl : Addr) (E : Nat) : Prop where
  a : fs.lookup ("places" : Str) = some px
  b : fs.lookup ("escapes" : Str) = some (vN E)
  c : fs.lookup ("bounds" : Str) = some (.ref bl)
  m1 : fs.lookup ("is_possible" : Str) = none
  m2 : fs.lookup ("do_contradict" : Str) = none
  m3 : fs.lookup ("contradicting" : Str) = none
  m4 : fs.lookup ("check" : Str) = none
  m5 : fs.lookup ("least_row" : Str) = none
  m6 : fs.lookup ("greatest_row" : Str) = none
  m7 : fs.lookup ("known" : Str) = none
def BoV (K : PySem.W.Frag) (H : Hp) (y : V) (U : List Un) (E : Nat) (bs : List Bd) : Prop := ∃ a dx fs px bl, y = .ref a ∧ H a = some (.ins (gaB K) dx fs) ∧ BoFs fs px bl E ∧ PlV K H px U ∧ GL BdV H bl bs
theorem BoV.same {K : PySem.W.Frag} {H H' : Hp} {y : V} {U : List Un} {E : Nat} {bs : List Bd} (h : BoV K H y U E bs) (s : Same H H') : BoV K H' y U E bs := by
  obtain ⟨a, dx, fs, px, bl, e, h1, h2, h3, h4⟩ := h
  exact ⟨a, dx, fs, px, bl, e, s _ _ h1, h2, h3.same s, h4.same stabBd s⟩
section
variable {P : Program} {w : World} {K : PySem.W.Frag} {mg : Str → Option Value} {base : Heap}
theorem clB (T : Txt K mg) : Cls K (gaB K) := He.cls_ok (T.fact 125 (f := .cls "Bounds") rfl)
theorem naP (T : Txt K mg) : NoAttr K (gaB K) "places" := He.noat_ok (T.fact 127 (f := .noat "Bounds" "places") rfl)
theorem naE (T : Txt K mg) : NoAttr K (gaB K) "escapes" := He.noat_ok (T.fact 128 (f := .noat "Bounds" "escapes") rfl)
theorem naB (T : Txt K mg) : NoAttr K (gaB K) "bounds" := He.noat_ok (T.fact 129 (f := .noat "Bounds" "bounds") rfl)
def sp_Bounds_init (K : PySem.W.Frag) : Sp := fun vs H Q _ => ∃ (x dx a b : Addr) (U : List Un) (E : Nat) (fs : List Fact), vs = [.ref x, .ref a, vN E, .ref b] ∧ H x = some (.ins (gaB K) dx []) ∧ LT H a (enR (rnT U)) ∧ UB U ∧ LT H b (fs.map rowF) ∧ (∀ f ∈ fs, FOk U f) ∧ fs.length ≤ 1000 ∧ ∀ H', Mod x H H' → BoV K H' (.ref x) U E (fs.map (bdF U)) → Q .non H'
abbrev n_Bounds_init : List Str := ["self", "text", "escapes", "facts", "fact"]
theorem sc_Bounds_init : FnScope n_Bounds_init ["self", "text", "escapes", "facts"] (defScope s_Bounds_init) := ⟨rfl, rfl, rfl, by decide +kernel, rfl, by decide +kernel, by decide +kernel⟩
theorem ok_Bounds_init (T : Txt K mg) : ClK P w K mg base CX0 "Bounds" ["self", "text", "escapes", "facts"] 8 (sp_Bounds_init K) := by
  obtain ⟨fd, F⟩ := T.def_ 61 (d := d_Bounds_init) rfl
  have K_Places := ok_Places_init (P := P) (w := w) (base := base) T
  have C_bound_of := ok_bound_of (P := P) (w := w) (base := base) T
  refine clk_ok (x := "Bounds") F (T.fact 126) (T.glo 76) (fun _ _ _ _ _ _ us hl => match us, hl with | [_, _, _, _], _ => rfl) sc_Bounds_init (fun vs H Q E h => ?_) (fun cdv A outer s H vs Q E hr h => ?_)
  · obtain ⟨x, dx, a, b, U, E, fs, rfl, _⟩ := h
    rfl
  · obtain ⟨x, dx, a, b, U, E, fs, rfl, hx, ha, o, hb, hfo, hfz, k⟩ := h
    refine ⟨_, (pss_cons (ps_fld (pv 0) (pe_clk K_Places (hr.mono (by decide)) (pa_cons (pv 1) pa_nil)) rfl)
      (pss_cons (ps_fld (pv 0) (pv 2) rfl)
      (pss_one (ps_fld (pv 0) (pe_lc (own := [("fact", 4)]) (g := (gName 4)) (tt := tYes) rfl sc_Bounds_init.nd (pi_list (pv 3)) (blkOk_by (N := n_Bounds_init) (sc := defScope s_Bounds_init) (by decide +kernel)) (fun _ _ _ _ _ => (pg_name (i := 4) sc_Bounds_init.nd rfl (Or.inl rfl))) (fun _ _ _ _ _ => pts_nil) (fun _ _ _ _ _ => (pe_cl C_bound_of (hr.mono (by decide)) (pa_cons (pe_fldK K (pv 0)) (pa_cons (pv 4) pa_nil))))) rfl)))), ?_⟩
    have c := clB T
    refine ⟨_, rfl, fun px pdx npx npd nex => ?_⟩
    have s0 : Same H (upd (upd H pdx (.own px)) px (.ins (gaL K) pdx [])) := Same.mut (Same.new npd) npx
    refine ⟨px, pdx, a, U, rfl, upd_same, ha.same s0, o, fun H1 m1 hpl => ⟨rfl, ?_⟩⟩
    have s1 : Same H H1 := Mod.same m1 s0 npx
    have pxx : (V.ref px) ≠ .ref x := fun z => by
      rw [V.ref.inj z, hx] at npx; cases npx
    have hx1 := s1 _ _ hx
    have hb1 := hb.same s1
    refine ⟨_, rfl, x, gaB K, dx, _, rfl, hx1, c, naP T, by decide, ?_⟩
    refine ⟨_, rfl, _, rfl, x, gaB K, dx, _, rfl, upd_same, c, naE T, Nat.lt_of_le_of_lt (putF_len _ _ _) (by decide), ?_⟩
    have m2 : Mod x H1 (upd (upd H1 x (.ins (gaB K) dx (putF "places" (.ref px) []))) x (.ins (gaB K) dx (putF "escapes" (vN E) (putF "places" (.ref px) [])))) := Mod.upd.trans Mod.upd
    have hx2 : (upd (upd H1 x (.ins (gaB K) dx (putF "places" (.ref px) []))) x (.ins (gaB K) dx (putF "escapes" (vN E) (putF "places" (.ref px) [])))) x = some (.ins (gaB K) dx (putF "escapes" (vN E) (putF "places" (.ref px) []))) := upd_same
    have hb2 := hb1.modI hx1 m2
    have hp2 := PlV.modI hpl pxx hx1 m2
    have mx : ∀ {H2 : Hp}, Mod x H1 H2 → Mod x H H2 := fun m => (Mod.of_same s1).trans m
    generalize upd (upd H1 x (.ins (gaB K) dx (putF "places" (.ref px) []))) x (.ins (gaB K) dx (putF "escapes" (vN E) (putF "places" (.ref px) []))) = H2 at m2 hx2 hb2 hp2 ⊢
    obtain ⟨xs, hxs, hxl⟩ := hb2.lst
    rw [List.length_map] at hxl
    refine ⟨_, rfl, b, rfl, ⟨_, SqL.h hxs⟩, fun D nD => lcL_gl stabBd (xs := xs) (fun i => fs[i]?.map (bdF U)) (by omega) nD (SqL.h hxs) (fun i y H3 hy s3 Qc Qn t => ?_) fun H3 s3 hD => ?_⟩
    · obtain ⟨r, t0, e1, rfl, e3⟩ := (hb2.same s3).row (s3 _ _ hxs) hy
      obtain ⟨f, e4, rfl⟩ : ∃ f, fs[i]? = some f ∧ r = rowF f := by
        rw [List.getElem?_map] at e1
        cases e : fs[i]? with
        | none => rw [e] at e1; cases e1
        | some f => rw [e] at e1; exact ⟨f, rfl, (Option.some.inj e1).symm⟩
      have t' : ∀ v H', Same H3 H' → BdV H' v (bdF U f) → Qc v H' := by
        unfold TurnG at t
        rw [e4] at t
        exact t
      refine El.name ?_
      refine ⟨_, rfl, x, gaB K, dx, _, _, rfl, s3 _ _ hx2, c, naP T, (by rw [lk_n _ _ (by decide), lk_s]), ?_⟩
      exact ⟨_, rfl, .ref px, t0, f, U, rfl, hp2.same s3, o, e3, hfo f (List.mem_of_getElem? e4), fun H4 v s4 hv => t' v H4 s4 hv⟩
    · have e : (List.range xs.length).filterMap (fun i => fs[i]?.map (bdF U)) = fs.map (bdF U) := by
        rw [hxl, fm_rows (rows := fs) (k := fun f => some (bdF U f)) (fun i r h => by rw [h]; rfl)]
        exact congrFun List.filterMap_eq_map fs
      rw [e] at hD
      have hx3 := s3 _ _ hx2
      have l2 := putF_len ("escapes" : Str) (vN E) (putF "places" (.ref px) [])
      have l1 := putF_len ("places" : Str) (.ref px) []
      have l0 : ([] : List (Str × V)).length = 0 := rfl
      refine ⟨_, rfl, x, gaB K, dx, _, rfl, hx3, c, naB T, by omega, ?_⟩
      have m3 : Mod x H3 (upd H3 x (.ins (gaB K) dx (putF "bounds" (.ref D) (putF "escapes" (vN E) (putF "places" (.ref px) []))))) := Mod.upd
      refine k _ (mx ((m2.trans (Mod.of_same s3)).trans m3)) ⟨x, dx, _, .ref px, D, rfl, upd_same, ⟨?_, ?_, ?_, ?_, ?_, ?_, ?_, ?_, ?_, ?_⟩, PlV.modI (hp2.same s3) pxx hx3 m3, BLmodI hD hx3 m3⟩
      · rw [lk_n _ _ (by decide), lk_n _ _ (by decide), lk_s]
      · rw [lk_n _ _ (by decide), lk_s]
      · rw [lk_s]
      all_goals (rw [lk_n _ _ (by decide), lk_n _ _ (by decide), lk_n _ _ (by decide)]; rfl)
def sp_Bounds_is_possible (K : PySem.W.Frag) : Sp := fun vs H Q _ => ∃ (y v : V) (U : List Un) (E : Nat) (bs : List Bd) (b : Bd), vs = [y, v] ∧ BoV K H y U E bs ∧ UB U ∧ BdV H v b ∧ BOk U b ∧ ∀ H', Same H H' → Q (.bl (poss U E b)) H'
abbrev n_Bounds_is_possible : List Str := ["self", "bound", "is_lower", "position", "level"]
theorem sc_Bounds_is_possible : FnScope n_Bounds_is_possible ["self", "bound"] (defScope s_Bounds_is_possible) := ⟨rfl, rfl, rfl, by decide +kernel, rfl, by decide +kernel, by decide +kernel⟩
theorem ok_Bounds_is_possible (T : Txt K mg) : ClM P w K mg base CX0 "Bounds" "is_possible" ["self", "bound"] 3 (sp_Bounds_is_possible K) := by
  obtain ⟨fd, F⟩ := T.def_ 62 (d := d_Bounds_is_possible) rfl
  have C_block_end := ok_Places_block_end (P := P) (w := w) (base := base) T
  have C_last_place := ok_Places_last_place (P := P) (w := w) (base := base) T
  refine clm_ok (x := "Bounds") F (T.fact 125) (T.fact 130) (fun _ _ _ _ _ _ us hl => match us, hl with | [_, _], _ => rfl) sc_Bounds_is_possible (fun vs H Q E h => ?_) (fun cdv A outer s H vs Q E hr h => ?_)
  · obtain ⟨y, v, U, E, bs, b, rfl, _⟩ := h
    rfl
  · obtain ⟨y, v, U, E, bs, b, rfl, ⟨a, dx, fs, px, bl, rfl, ha, hf, hp, hl⟩, o, hv, ho, k⟩ := h
    refine ⟨_, (pss_cons (ps_if (PW.pt (pw_or (pt_cmpR op_isN (pv 1) pe_non (nomark _)) (pw_or1 (pt_not (pt_val (pe_ix (ix_tupK K) (pv 1) pe_int (fun _ _ => rfl)))))))
        (pss_one (ps_ret pe_bl))
        pss_nil)
      (pss_cons (ps_asg (pv 1) (pg_tup rfl (pgs_cons (pg_name (i := 2) sc_Bounds_is_possible.nd rfl (Or.inl rfl)) (pgs_cons (pg_name (i := 3) sc_Bounds_is_possible.nd rfl (Or.inl rfl)) (pgs_cons (pg_name (i := 4) sc_Bounds_is_possible.nd rfl (Or.inl rfl)) pgs_nil)))))
      (pss_one (ps_ret (pe_and (pe_cmpR oLe (pv 4) (pe_fldK K (pv 0)) (nomark _)) (pe_one (pe_cmpR oLe (pe_clmK K C_block_end (hr.mono (by decide)) (pe_fldK K (pv 0)) (pa_cons (pv 4) (pa_cons (pv 3) pa_nil))) (pe_clmK K C_last_place (hr.mono (by decide)) (pe_fldK K (pv 0)) (pa_cons (pv 4) pa_nil)) (nomark _)))))))), ?_⟩
    have c := clB T
    cases b with
    | none =>
      have hv : v = .non := hv
      subst hv
      refine ⟨_, rfl, rfl, true, rfl, iteT ?_⟩
      exact k _ (Same.refl _)
    | some x =>
      obtain ⟨lo, p, kk⟩ := x
      obtain ⟨t, rfl, ht⟩ := hv
      obtain ⟨hp1, hk1⟩ := ho
      refine ⟨_, rfl, rfl, false, rfl, iteF ?_⟩
      refine ⟨_, rfl, t, _, _, _, rfl, rfl, SqT.h ht, atI_nat (j := 0) rfl, lo, rfl, ?_⟩
      cases lo with
      | false => exact iteT (k _ (Same.refl _))
      | true =>
        refine iteF ?_
        refine ⟨_, rfl, t, _, rfl, SqT.h ht, rfl, _, _, rfl, _, _, rfl, _, _, rfl, rfl, ?_⟩
        have hp0 := hp
        obtain ⟨pa, pdx, pfs, pg, rfl, hpa, hpf, _⟩ := hp0
        refine ⟨_, rfl, _, rfl, a, gaB K, dx, fs, _, rfl, ha, c, naE T, hf.b, kk, E, rfl, rfl, _, rfl, ite2 (fun h1 => ?_) (fun h1 => ?_)⟩
        · refine ⟨_, rfl, a, gaB K, dx, fs, _, rfl, ha, c, naP T, hf.a, pa, pdx, pfs, rfl, hpa, hpf.m4, _, rfl, _, rfl, .ref pa, U, kk, p, rfl, hp, o, hk1, hp1, fun H2 s2 => ?_⟩
          refine ⟨_, rfl, a, gaB K, dx, fs, _, rfl, s2 _ _ ha, c, naP T, hf.a, pa, pdx, pfs, rfl, s2 _ _ hpa, hpf.m2, _, rfl, .ref pa, U, kk, rfl, hp.same s2, o, hk1, be kk U p, lpU kk 0 U, rfl, rfl, ?_⟩
          have e : poss U E (some (true, p, kk)) = decide (be kk U p ≤ lpU kk 0 U) := by
            show (false || (decide (kk ≤ E) && decide (be kk U p ≤ lpU kk 0 U))) = _
            rw [h1]; rfl
          have := k _ s2
          rw [e] at this
          exact this
        · have e : poss U E (some (true, p, kk)) = false := by
            show (false || (decide (kk ≤ E) && decide (be kk U p ≤ lpU kk 0 U))) = _
            rw [Bool.eq_false_iff.mpr h1]; rfl
          have := k _ (Same.refl _)
          rw [e] at this
          exact this
def sp_Bounds_do_contradict (K : PySem.W.Frag) : Sp := fun vs H Q _ => ∃ (y v u : V) (U : List Un) (E : Nat) (bs : List Bd) (b d : Bd), vs = [y, v, u] ∧ BoV K H y U E bs ∧ UB U ∧ BdV H v b ∧ BOk U b ∧ BdV H u d ∧ BOk U d ∧ ∀ H', Same H H' → Q (.bl (contr U b d)) H'
abbrev n_Bounds_do_contradict : List Str := ["self", "one", "other", "lower", "upper"]
theorem sc_Bounds_do_contradict : FnScope n_Bounds_do_contradict ["self", "one", "other"] (defScope s_Bounds_do_contradict) := ⟨rfl, rfl, rfl, by decide +kernel, rfl, by decide +kernel, by decide +kernel⟩
theorem ok_Bounds_do_contradict (T : Txt K mg) : ClM P w K mg base CX0 "Bounds" "do_contradict" ["self", "one", "other"] 3 (sp_Bounds_do_contradict K) := by
  obtain ⟨fd, F⟩ := T.def_ 63 (d := d_Bounds_do_contradict) rfl
  have C_block_end := ok_Places_block_end (P := P) (w := w) (base := base) T
  refine clm_ok (x := "Bounds") F (T.fact 125) (T.fact 131) (fun _ _ _ _ _ _ us hl => match us, hl with | [_, _, _], _ => rfl) sc_Bounds_do_contradict (fun vs H Q E h => ?_) (fun cdv A outer s H vs Q E hr h => ?_)
  · obtain ⟨y, v, u, U, E, bs, b, d, rfl, _⟩ := h
    rfl
  · obtain ⟨y, v, u, U, E, bs, b, d, rfl, ⟨a, dx, fs, px, bl, rfl, ha, hf, hp, hl⟩, o, hv, ho, hu, hd, k⟩ := h
    refine ⟨_, (pss_cons (ps_if (PW.pt (pw_or (pt_cmpR op_isN (pv 1) pe_non (nomark _)) (pw_or (pt_cmpR op_isN (pv 2) pe_non (nomark _)) (pw_or1 (pt_cmpR op_eq (pe_ix (ix_tupK K) (pv 1) pe_int (fun _ _ => rfl)) (pe_ix (ix_tupK K) (pv 2) pe_int (fun _ _ => rfl)) (nomark _))))))
        (pss_one (ps_ret pe_bl))
        pss_nil)
      (pss_cons (ps_asg (pe_ifExp (pt_val (pe_ix (ix_tupK K) (pv 1) pe_int (fun _ _ => rfl))) (pe_tup (pa_cons (pv 1) (pa_cons (pv 2) pa_nil))) (pe_tup (pa_cons (pv 2) (pa_cons (pv 1) pa_nil)))) (pg_tup rfl (pgs_cons (pg_name (i := 3) sc_Bounds_do_contradict.nd rfl (Or.inl rfl)) (pgs_cons (pg_name (i := 4) sc_Bounds_do_contradict.nd rfl (Or.inl rfl)) pgs_nil))))
      (pss_one (ps_ret (pe_and (pe_cmpR oLt (pe_ix (ix_tupK K) (pv 4) pe_int (fun _ _ => rfl)) (pe_ix (ix_tupK K) (pv 3) pe_int (fun _ _ => rfl)) (nomark _)) (pe_one (pe_cmpR oLt (pe_ix (ix_tupK K) (pv 4) pe_int (fun _ _ => rfl)) (pe_clmK K C_block_end (hr.mono (by decide)) (pe_fldK K (pv 0)) (pa_cons (pe_ix (ix_tupK K) (pv 3) pe_int (fun _ _ => rfl)) (pa_cons (pe_ix (ix_tupK K) (pv 3) pe_int (fun _ _ => rfl)) pa_nil))) (nomark _)))))))), ?_⟩
    have c := clB T
    cases b with
    | none =>
      have hv : v = .non := hv
      subst hv
      refine ⟨_, rfl, rfl, true, rfl, iteT ?_⟩
      have e : contr U none d = false := by cases d <;> rfl
      rw [e] at k
      exact k _ (Same.refl _)
    | some x =>
      obtain ⟨lo, p, kk⟩ := x
      obtain ⟨t, rfl, ht⟩ := hv
      obtain ⟨hp1, hk1⟩ := ho
      refine ⟨_, rfl, rfl, false, rfl, iteF ?_⟩
      cases d with
      | none =>
        have hu : u = .non := hu
        subst hu
        refine ⟨_, rfl, rfl, true, rfl, iteT ?_⟩
        have e : contr U (some (lo, p, kk)) none = false := by cases lo <;> rfl
        rw [e] at k
        exact k _ (Same.refl _)
      | some x2 =>
        obtain ⟨lo2, q, mm⟩ := x2
        obtain ⟨t2, rfl, ht2⟩ := hu
        obtain ⟨hq1, hm1⟩ := hd
        refine ⟨_, rfl, rfl, false, rfl, iteF ?_⟩
        refine ⟨_, rfl, t, _, _, _, rfl, rfl, SqT.h ht, atI_nat (j := 0) rfl, _, rfl, t2, _, _, _, rfl, rfl, SqT.h ht2, atI_nat (j := 0) rfl, rfl, ?_⟩
        have hp0 := hp
        obtain ⟨pa, pdx, pfs, pg, rfl, hpa, hpf, _⟩ := hp0
        -- lower at tl, upper at tu
        have go : ∀ (tl tu r : Addr) (pl kl pu ku : Nat) (H2 : Hp), Same H H2 → H2 tl = some (.tup [.bl true, vN pl, vN kl]) → H2 tu = some (.tup [.bl false, vN pu, vN ku]) → pl < tot U → kl ≤ 300 → contr U (some (lo, p, kk)) (some (lo2, q, mm)) = (decide (ku < kl) && decide (pu < be kl U pl)) →
            tAndV (tOp (rN0 fun n m => V.bl (decide (n < m))) (tOp (rIxT K) (tVar 4) (tC (V.int 2))) (tOp (rIxT K) (tVar 3) (tC (V.int 2)))) (tOp (rN0 fun n m => V.bl (decide (n < m))) (tOp (rIxT K) (tVar 4) (tC (V.int 1))) (tMeth (He.ga K "Places") "block_end" (sp_Places_block_end K) [] E0 (tFld K (tVar 0) "places") (tCons (tOp (rIxT K) (tVar 3) (tC (V.int 2))) (tCons (tOp (rIxT K) (tVar 3) (tC (V.int 1))) tNil)))) [some (.ref a), some (.ref t), some (.ref t2), some (.ref tl), some (.ref tu)] H2 Q := fun tl tu r pl kl pu ku H2 s2 h1 h2 h3 h4 e => by
          rw [e] at k
          refine ⟨_, rfl, tu, _, _, _, rfl, rfl, SqT.h h2, atI_nat (j := 2) rfl, _, rfl, tl, _, _, _, rfl, rfl, SqT.h h1, atI_nat (j := 2) rfl, ku, kl, rfl, rfl, _, rfl, ite2 (fun c1 => ?_) (fun c1 => ?_)⟩
          · rw [c1] at k
            refine ⟨_, rfl, tu, _, _, _, rfl, rfl, SqT.h h2, atI_nat (j := 1) rfl, _, rfl, a, gaB K, dx, fs, _, rfl, s2 _ _ ha, c, naP T, hf.a, pa, pdx, pfs, rfl, s2 _ _ hpa, hpf.m4, _, rfl, tl, _, _, _, rfl, rfl, SqT.h h1, atI_nat (j := 2) rfl, _, rfl, tl, _, _, _, rfl, rfl, SqT.h h1, atI_nat (j := 1) rfl, .ref pa, U, kl, pl, rfl, hp.same s2, o, h4, h3, fun H3 s3 => ⟨pu, be kl U pl, rfl, rfl, ?_⟩⟩
            have := k _ (s2.trans s3)
            exact this
          · rw [Bool.eq_false_iff.mpr c1] at k
            exact k _ s2
        cases lo with
        | true =>
          cases lo2 with
          | true => exact ⟨true, rfl, iteT (k _ (Same.refl _))⟩
          | false =>
            refine ⟨false, rfl, iteF ?_⟩
            refine ⟨_, rfl, t, _, _, _, rfl, rfl, SqT.h ht, atI_nat (j := 0) rfl, true, rfl, iteT ?_⟩
            refine ⟨_, rfl, _, rfl, z2, fun r nr => ?_⟩
            have s2 : Same H (upd H r (.tup [.ref t, .ref t2])) := Same.new nr
            refine ⟨r, _, rfl, SqT.h upd_same, rfl, _, _, rfl, _, _, rfl, rfl, ?_⟩
            exact go t t2 r p kk q mm _ s2 (s2 _ _ ht) (s2 _ _ ht2) hp1 hk1 rfl
        | false =>
          cases lo2 with
          | false => exact ⟨true, rfl, iteT (k _ (Same.refl _))⟩
          | true =>
            refine ⟨false, rfl, iteF ?_⟩
            refine ⟨_, rfl, t, _, _, _, rfl, rfl, SqT.h ht, atI_nat (j := 0) rfl, false, rfl, iteF ?_⟩
            refine ⟨_, rfl, _, rfl, z2, fun r nr => ?_⟩
            have s2 : Same H (upd H r (.tup [.ref t2, .ref t])) := Same.new nr
            refine ⟨r, _, rfl, SqT.h upd_same, rfl, _, _, rfl, _, _, rfl, rfl, ?_⟩
            exact go t2 t r q mm p kk _ s2 (s2 _ _ ht2) (s2 _ _ ht) hq1 hm1 rfl
end
end Sl


end
section
set_option Elab.async false
set_option linter.all false
set_option maxRecDepth 100000
set_option maxHeartbeats 4000000
namespace Sl
open PySem PySem.Spec PyProof.Rows L2
/-- what contradicting answers -/
def ctQ (H : Hp) (Q : VK) : Option (List Nat) → Prop
  | none => ∀ H', Same H H' → Q .non H'
  | some r => ∀ H' t, Same H H' → H' t = some (.tup (r.map vN)) → Q (.ref t) H'
theorem fm_filter {α : Type} (p : α → Bool) : ∀ l : List α, l.filterMap (fun b => if p b = true then some b else none) = l.filter p
  | [] => rfl
  | x :: r => by
    rw [List.filterMap_cons, List.filter_cons, fm_filter p r]
    cases p x <;> rfl
theorem bat_get {bs : List Bd} {i : Nat} {b : Bd} (h : bs[i]? = some b) : bat bs i = b := by
  unfold bat
  rw [List.getD_eq_getElem?_getD, h]; rfl
section
variable {P : Program} {w : World} {K : PySem.W.Frag} {mg : Str → Option Value} {base : Heap}
def sp_Bounds_contradicting (K : PySem.W.Frag) : Sp := fun vs H Q _ => ∃ (y : V) (U : List Un) (E : Nat) (bs : List Bd), vs = [y] ∧ BoV K H y U E bs ∧ UB U ∧ (∀ b ∈ bs, BOk U b) ∧ bs.length ≤ 1000 ∧ ctQ H Q (ctr U E bs)
abbrev n_Bounds_contradicting : List Str := ["self", "index", "bound", "later"]
theorem sc_Bounds_contradicting : FnScope n_Bounds_contradicting ["self"] (defScope s_Bounds_contradicting) := ⟨rfl, rfl, rfl, by decide +kernel, rfl, by decide +kernel, by decide +kernel⟩
theorem ok_Bounds_contradicting (T : Txt K mg) : ClM P w K mg base CX0 "Bounds" "contradicting" ["self"] 4 (sp_Bounds_contradicting K) := by
  obtain ⟨fd, F⟩ := T.def_ 64 (d := d_Bounds_contradicting) rfl
  have C_is_possible := ok_Bounds_is_possible (P := P) (w := w) (base := base) T
  have C_do_contradict := ok_Bounds_do_contradict (P := P) (w := w) (base := base) T
  refine clm_ok (x := "Bounds") F (T.fact 125) (T.fact 132) (fun _ _ _ _ _ _ us hl => match us, hl with | [_], _ => rfl) sc_Bounds_contradicting (fun vs H Q E h => ?_) (fun cdv A outer s H vs Q E hr h => ?_)
  · obtain ⟨y, U, E, bs, rfl, _⟩ := h
    rfl
  · obtain ⟨y, U, E, bs, rfl, hy, o, ho, hz, k⟩ := h
    refine ⟨_, (pss_cons (ps_for PassesOwn.never rfl (pi_enum (by rfl) (T.free 93) (pa_cons (pe_fldK K (pv 0)) pa_nil)) (pg_tup rfl (pgs_cons (pg_name (i := 1) sc_Bounds_contradicting.nd rfl (Or.inl rfl)) (pgs_cons (pg_name (i := 2) sc_Bounds_contradicting.nd rfl (Or.inl rfl)) pgs_nil)))
        (pss_one (ps_if (pt_not (pt_val (pe_clmK K C_is_possible (hr.mono (by decide)) (pv 0) (pa_cons (pv 2) pa_nil))))
          (pss_one (ps_ret (pe_tup (pa_cons (pv 1) pa_nil))))
          pss_nil)))
      (pss_cons (ps_for PassesOwn.never rfl (pi_enum (by rfl) (T.free 93) (pa_cons (pe_fldK K (pv 0)) pa_nil)) (pg_tup rfl (pgs_cons (pg_name (i := 1) sc_Bounds_contradicting.nd rfl (Or.inl rfl)) (pgs_cons (pg_name (i := 2) sc_Bounds_contradicting.nd rfl (Or.inl rfl)) pgs_nil)))
        (pss_one (ps_for PassesOwn.never rfl (pi_range2 (by rfl) (T.free 91) (pa_cons (pe_op oAdd (pv 1) pe_int) (pa_cons (pe_callB (call_len_seqK K) (by rfl) (T.free 83) bt_len (pa_cons (pe_fldK K (pv 0)) pa_nil)) pa_nil))) (pg_name (i := 3) sc_Bounds_contradicting.nd rfl (Or.inl rfl))
          (pss_one (ps_if (pt_val (pe_clmK K C_do_contradict (hr.mono (by decide)) (pv 0) (pa_cons (pv 2) (pa_cons (pe_ix (ix_listK K) (pe_fldK K (pv 0)) (pv 3) (fun _ _ => rfl)) pa_nil))))
            (pss_one (ps_ret (pe_tup (pa_cons (pv 1) (pa_cons (pv 3) pa_nil)))))
            pss_nil)))))
      (pss_one (ps_ret pe_non)))), ?_⟩
    have c := clB T
    have hy0 := hy
    obtain ⟨a, dx, fs, px, bl, rfl, ha, hf, hp, hl⟩ := hy0
    obtain ⟨xs, hxs, hxl⟩ := hl.lst
    refine ⟨_, rfl, a, gaB K, dx, fs, _, rfl, ha, c, naB T, hf.c, ?_⟩
    refine ⟨bl, xs, rfl, SqL.h hxs, for_enum (K := K) (a := bl) (xs := xs) (fun i σ H' => Same H H' ∧ (∃ (v1 v2 v3 : Option V), σ = [some (.ref a), v1, v2, v3]) ∧ ∀ j, j < i → poss U E (bat bs j) = true)
      ⟨Same.refl _, ⟨none, none, none, rfl⟩, fun j hj => by omega⟩ (fun i σ H' h => SqL.h (h.1 _ _ hxs)) ?_ ?_⟩
    · rintro i x T1 σ H' hx ⟨sH, ⟨v1, v2, v3, rfl⟩, hinv⟩ nT
      have hi : i < bs.length := hxl ▸ (List.getElem?_eq_some_iff.mp hx).1
      have sT : Same H' (upd H' T1 (.tup [vN i, x])) := Same.new nT
      obtain ⟨b, e1, e2⟩ := (hl.same stabBd (sH.trans sT)).row ((sH.trans sT) _ _ hxs) hx
      have eb := bat_get e1
      refine ⟨T1, _, rfl, SqT.h upd_same, rfl, _, _, rfl, _, _, rfl, rfl, ?_⟩
      refine ⟨_, rfl, a, dx, fs, rfl, (sH.trans sT) _ _ ha, hf.m1, _, rfl, .ref a, x, U, E, bs, b, rfl, hy.same (sH.trans sT), o, e2, ho b (List.mem_of_getElem? e1), fun H2 s2 => ⟨_, rfl, ?_⟩⟩
      cases hp : poss U E b with
      | true =>
        refine iteF ?_
        refine ⟨(sH.trans sT).trans s2, ⟨_, _, _, rfl⟩, fun j hj => ?_⟩
        rcases Nat.lt_or_eq_of_le (Nat.le_of_lt_succ hj) with q | q
        · exact hinv j q
        · rw [q, eb]; exact hp
      | false =>
        refine iteT ?_
        have e : ctr U E bs = some [i] := by
          have : ctrI U E bs = some i := fstI_some (fun j hj => by rw [hinv j hj]; rfl) (by rw [eb, hp]; rfl) hi
          unfold ctr
          rw [this]
        rw [e] at k
        exact ⟨_, rfl, z1, fun t nt => k _ t (((sH.trans sT).trans s2).trans (Same.new nt)) upd_same⟩
    · rintro σ H1 ⟨sH1, ⟨v1, v2, v3, rfl⟩, hall⟩
      have eI : ctrI U E bs = none := fstI_none fun i hi => by rw [hall i (by rw [hxl]; exact hi)]; rfl
      refine ⟨_, rfl, a, gaB K, dx, fs, _, rfl, sH1 _ _ ha, c, naB T, hf.c, ?_⟩
      refine ⟨bl, xs, rfl, SqL.h (sH1 _ _ hxs), for_enum (K := K) (a := bl) (xs := xs) (fun i σ H' => Same H H' ∧ (∃ (v1 v2 v3 : Option V), σ = [some (.ref a), v1, v2, v3]) ∧ ∀ j, j < i → ctrR U bs j = none)
        ⟨sH1, ⟨_, _, _, rfl⟩, fun j hj => by omega⟩ (fun i σ H' h => SqL.h (h.1 _ _ hxs)) ?_ ?_⟩
      · rintro i x T1 σ H' hx ⟨sH, ⟨v1', v2', v3', rfl⟩, hinv⟩ nT
        have hi : i < bs.length := hxl ▸ (List.getElem?_eq_some_iff.mp hx).1
        have sT : Same H' (upd H' T1 (.tup [vN i, x])) := Same.new nT
        have S1 := sH.trans sT
        obtain ⟨b, e1, e2⟩ := (hl.same stabBd S1).row (S1 _ _ hxs) hx
        have eb := bat_get e1
        refine ⟨T1, _, rfl, SqT.h upd_same, rfl, _, _, rfl, _, _, rfl, rfl, ?_⟩
        refine ⟨_, rfl, i, 1, rfl, rfl, _, rfl, a, gaB K, dx, fs, _, rfl, S1 _ _ ha, c, naB T, hf.c, bl, xs, rfl, .inl (SqL.h (S1 _ _ hxs)), ((i + 1 : Nat) : Int), (xs.length : Int), rfl, ⟨by omega, by omega, by omega, by omega⟩, ?_⟩
        have en : ((xs.length : Int) - ((i + 1 : Nat) : Int)).toNat = bs.length - (i + 1) := by rw [hxl]; omega
        rw [en]
        refine for_range (lo := ((i + 1 : Nat) : Int)) (n := bs.length - (i + 1)) (fun m σ H2 => Same H H2 ∧ (∃ v3 : Option V, σ = [some (.ref a), some (vN i), some x, v3]) ∧ ∀ j, i < j → j < i + 1 + m → contr U b (bat bs j) = false)
          ⟨S1, ⟨_, rfl⟩, fun j h1 h2 => by omega⟩ ?_ ?_
        · rintro m σ H2 hm ⟨sH2, ⟨v3'', rfl⟩, hin⟩
          have ej : ((i + 1 : Nat) : Int) + (m : Nat) = ((i + 1 + m : Nat) : Int) := by omega
          have hj : i + 1 + m < bs.length := by omega
          obtain ⟨d, f1⟩ : ∃ d, bs[i + 1 + m]? = some d := ⟨_, List.getElem?_eq_getElem hj⟩
          obtain ⟨xs', x', g1, g2, g3⟩ := (hl.same stabBd sH2).get f1
          rw [sH2 _ _ hxs] at g1
          cases g1
          have ed := bat_get f1
          refine ⟨_, rfl, a, dx, fs, rfl, sH2 _ _ ha, hf.m2, _, rfl, _, rfl, a, gaB K, dx, fs, _, rfl, sH2 _ _ ha, c, naB T, hf.c, _, rfl, ?_⟩
          rw [ej]
          refine ⟨bl, _, _, _, rfl, rfl, SqL.h (sH2 _ _ hxs), atI_nat g2, ?_⟩
          have hx2 : BdV H2 x b := by
            obtain ⟨b', q1, q2⟩ := (hl.same stabBd sH2).row (sH2 _ _ hxs) hx
            rw [e1] at q1
            cases q1
            exact q2
          refine ⟨.ref a, x, x', U, E, bs, b, d, rfl, hy.same sH2, o, hx2, ho b (List.mem_of_getElem? e1), g3, ho d (List.mem_of_getElem? f1), fun H3 s3 => ⟨_, rfl, ?_⟩⟩
          cases hc : contr U b d with
          | true =>
            refine iteT ?_
            have eR : ctrR U bs i = some (i + 1 + m) := by
              refine fstI_some (fun j hj' => ?_) ?_ hj
              · by_cases h1 : i < j
                · rw [eb, hin j h1 hj', Bool.and_false]
                · rw [decide_eq_false h1]; rfl
              · rw [eb, ed, hc, decide_eq_true (show i < i + 1 + m by omega)]; rfl
            have eJ : ctrJ U bs = some i := fstI_some (fun j hj' => by rw [hinv j hj']; rfl) (by rw [eR]; rfl) hi
            have e : ctr U E bs = some [i, i + 1 + m] := by
              unfold ctr
              rw [eI, eJ]
              show (ctrR U bs i).map (fun j => [i, j]) = _
              rw [eR]
              rfl
            rw [e] at k
            exact ⟨_, rfl, _, rfl, z2, fun t nt => k _ t ((sH2.trans s3).trans (Same.new nt)) upd_same⟩
          | false =>
            refine iteF ?_
            refine ⟨sH2.trans s3, ⟨_, rfl⟩, fun j h1 h2 => ?_⟩
            rcases Nat.lt_or_eq_of_le (show j ≤ i + 1 + m by omega) with q | q
            · exact hin j h1 q
            · rw [q, ed]; exact hc
        · rintro σ H2 ⟨sH2, ⟨v3'', rfl⟩, hin⟩
          refine ⟨sH2, ⟨_, _, _, rfl⟩, fun j hj => ?_⟩
          rcases Nat.lt_or_eq_of_le (Nat.le_of_lt_succ hj) with q | q
          · exact hinv j q
          · rw [q]
            refine fstI_none fun l hl' => ?_
            by_cases h1 : i < l
            · rw [eb, hin l h1 (by omega), Bool.and_false]
            · rw [decide_eq_false h1]; rfl
      · rintro σ H2 ⟨sH2, ⟨v1', v2', v3', rfl⟩, hall2⟩
        have eJ : ctrJ U bs = none := fstI_none fun i hi => by rw [hall2 i (by rw [hxl]; exact hi)]; rfl
        have e : ctr U E bs = none := by
          unfold ctr
          rw [eI, eJ]
        rw [e] at k
        exact k _ sH2
/-! ### check -/
def sp_Bounds_check (K : PySem.W.Frag) : Sp := fun vs H Q E => ∃ (y : V) (U : List Un) (M : Nat) (bs : List Bd), vs = [y] ∧ BoV K H y U M bs ∧ UB U ∧ (∀ b ∈ bs, BOk U b) ∧ bs.length ≤ 1000 ∧ match ctr U M bs with
  | none => ∀ H', Same H H' → Q .non H'
  | some r => ∀ H' d t, Same H H' → H' d = some (.xd [(sInd, .ref t)]) → H' t = some (.tup (r.map vN)) → E (.ref (gaC K)) (some d) H'
abbrev n_Bounds_check : List Str := ["self", "indices"]
theorem sc_Bounds_check : FnScope n_Bounds_check ["self"] (defScope s_Bounds_check) := ⟨rfl, rfl, rfl, by decide +kernel, rfl, by decide +kernel, by decide +kernel⟩
theorem ok_Bounds_check (T : Txt K mg) : ClM P w K mg base (L2.CX P w) "Bounds" "check" ["self"] 5 (sp_Bounds_check K) := by
  obtain ⟨fd, F⟩ := T.def_ 65 (d := d_Bounds_check) rfl
  have C_contradicting := ok_Bounds_contradicting (P := P) (w := w) (base := base) T
  refine clm_okX (x := "Bounds") F (T.fact 125) (T.fact 133) (fun _ _ _ _ _ _ us hl => match us, hl with | [_], _ => rfl) sc_Bounds_check (fun vs H Q E h => ?_) (fun cdv A outer s H vs Q E hr h => ?_)
  · obtain ⟨y, U, M, bs, rfl, _⟩ := h
    rfl
  · obtain ⟨y, U, M, bs, rfl, hy, o, ho, hz, k⟩ := h
    refine ⟨_, (pss_cons (ps_set (i := 1) sc_Bounds_check.nd rfl (Or.inl rfl) (pe_clm0K K C_contradicting (hr.mono (by decide)) (pv 0)))
      (pss_one (ps_if (pt_cmpR op_notN (pv 1) pe_non (nomark _))
        (pss_one (ps_ctr T (hr.mono (by decide)) (takes_of rfl rfl rfl rfl) (pv 1)))
        pss_nil))), ?_⟩
    have hy0 := hy
    obtain ⟨a, dx, fs, px, bl, rfl, ha, hf, hp, hl⟩ := hy0
    refine ⟨_, rfl, a, dx, fs, rfl, ha, hf.m3, .ref a, U, M, bs, rfl, hy, o, ho, hz, ?_⟩
    cases e : ctr U M bs with
    | none =>
      rw [e] at k
      intro H2 s2
      exact ⟨_, rfl, rfl, false, rfl, iteF (k _ s2)⟩
    | some r =>
      rw [e] at k
      intro H2 t s2 ht
      refine ⟨_, rfl, rfl, true, rfl, iteT ?_⟩
      refine ⟨_, rfl, by show 1 ≤ 1000; decide, fun x nx => ⟨x, .ref t, rfl, upd_same, fun d nd ned => ⟨rfl, d, [(sInd, .ref t)], upd_same, ?_, ?_, ?_⟩⟩⟩
      · rw [upd_ne ned]; exact upd_same
      · have : upd H2 x (exo x (gaC K) none) d = none := nd
        rw [upd_ne ned] at this
        exact this
      · have nd2 : H2 d = none := by
          have : upd H2 x (exo x (gaC K) none) d = none := nd
          rw [upd_ne ned] at this
          exact this
        have keep : Same H2 (upd (del (upd (upd (upd H2 x (exo x (gaC K) none)) d (exd d [(sInd, V.ref t)])) x (exo x (gaC K) (some d))) x) d (.xd [(sInd, .ref t)])) := fun b u eb => by
          have bx : b ≠ x := ne_of_none eb nx
          have bd : b ≠ d := ne_of_none eb nd2
          rw [upd_ne bd, del_ne bx, upd_ne bx, upd_ne bd, upd_ne bx]
          exact eb
        exact k _ d t (s2.trans keep) upd_same (keep _ _ ht)
/-! ### known -/
def sp_Bounds_known (K : PySem.W.Frag) : Sp := fun vs H Q _ => ∃ (y : V) (U : List Un) (E : Nat) (bs : List Bd) (lo : Bool), vs = [y, .bl lo] ∧ BoV K H y U E bs ∧ bs.length ≤ 1000 ∧ ∀ H' p, Same H H' → H p = none → GL BdV H' p (bs.filter (isLo lo)) → Q (.ref p) H'
abbrev n_Bounds_known : List Str := ["self", "is_lower", "bound"]
theorem sc_Bounds_known : FnScope n_Bounds_known ["self", "is_lower"] (defScope s_Bounds_known) := ⟨rfl, rfl, rfl, by decide +kernel, rfl, by decide +kernel, by decide +kernel⟩
theorem ok_Bounds_known (T : Txt K mg) : ClM P w K mg base CX0 "Bounds" "known" ["self", "is_lower"] 1 (sp_Bounds_known K) := by
  obtain ⟨fd, F⟩ := T.def_ 68 (d := d_Bounds_known) rfl
  refine clm_ok (x := "Bounds") F (T.fact 125) (T.fact 136) (fun _ _ _ _ _ _ us hl => match us, hl with | [_, _], _ => rfl) sc_Bounds_known (fun vs H Q E h => ?_) (fun cdv A outer s H vs Q E hr h => ?_)
  · obtain ⟨y, U, E, bs, lo, rfl, _⟩ := h
    rfl
  · obtain ⟨y, U, E, bs, lo, rfl, ⟨a, dx, fs, px, bl, rfl, ha, hf, hp, hl⟩, hz, k⟩ := h
    refine ⟨_, (pss_one (ps_ret (pe_lc (own := [("bound", 2)]) (g := (gName 2)) rfl sc_Bounds_known.nd (pi_list (pe_fldK K (pv 0))) (blkOk_by (N := n_Bounds_known) (sc := defScope s_Bounds_known) (by decide +kernel)) (fun _ _ _ _ _ => (pg_name (i := 2) sc_Bounds_known.nd rfl (Or.inl rfl))) (fun _ _ _ _ _ => (pts_one (PW.pt (pw_and (pt_cmpR op_notN (pv 2) pe_non (nomark _)) (pw_and1 (pt_cmpR op_eq (pe_ix (ix_tupK K) (pv 2) pe_int (fun _ _ => rfl)) (pv 1) (nomark _))))))) (fun _ _ _ _ _ => (pv 2))))), ?_⟩
    obtain ⟨xs, hxs, hxl⟩ := hl.lst
    refine ⟨_, rfl, a, gaB K, dx, fs, _, rfl, ha, clB T, naB T, hf.c, ?_⟩
    refine ⟨bl, rfl, ⟨_, SqL.h hxs⟩, fun D nD => lcL_gl stabBd (xs := xs) (fun i => bs[i]?.bind fun b => if isLo lo b = true then some b else none) (by omega) nD (SqL.h hxs) (fun i v H2 hx s2 Qc Qn t => ?_) fun H2 s2 hD => ?_⟩
    · obtain ⟨b, e1, e2⟩ := (hl.same stabBd s2).row (s2 _ _ hxs) hx
      unfold TurnG at t
      rw [e1] at t
      refine ⟨rfl, ?_⟩
      cases b with
      | none =>
        have e2 : v = .non := e2
        subst e2
        refine ⟨_, rfl, rfl, false, rfl, iteF ?_⟩
        exact t _ (Same.refl _)
      | some y =>
        obtain ⟨lo2, q, kk⟩ := y
        have e20 := e2
        obtain ⟨t0, rfl, ht0⟩ := e2
        refine ⟨_, rfl, rfl, true, rfl, iteT ?_⟩
        refine ⟨_, rfl, t0, _, _, _, rfl, rfl, SqT.h ht0, atI_nat (j := 0) rfl, _, rfl, rfl, ?_⟩
        have ev : decide (V.bl lo2 = V.bl lo) = decide (lo2 = lo) := decide_eq_decide.mpr ⟨fun z => V.bl.inj z, fun z => congrArg V.bl z⟩
        refine ⟨decide (lo2 = lo), congrArg V.bl ev, ?_⟩
        by_cases h1 : lo2 = lo
        · have e3 : isLo lo (some (lo2, q, kk)) = true := decide_eq_true h1
          simp only [Option.bind_some, if_pos e3] at t
          rw [decide_eq_true h1]
          exact iteT ⟨_, rfl, t _ _ (Same.refl _) e20⟩
        · have e3 : ¬ isLo lo (some (lo2, q, kk)) = true := fun z => h1 (of_decide_eq_true z)
          simp only [Option.bind_some, if_neg e3] at t
          rw [decide_eq_false h1]
          exact iteF (t _ (Same.refl _))
    · have e : (List.range xs.length).filterMap (fun i => bs[i]?.bind fun b => if isLo lo b = true then some b else none) = bs.filter (isLo lo) := by
        rw [hxl, fm_rows (rows := bs) (k := fun b => if isLo lo b = true then some b else none) (fun i r h => by rw [h]; rfl)]
        exact fm_filter (isLo lo) bs
      rw [e] at hD
      exact k H2 D s2 nD hD
end
end Sl


end
section
set_option Elab.async false
set_option linter.all false
set_option maxRecDepth 100000
set_option maxHeartbeats 4000000
namespace Sl
open PySem PySem.Spec PyProof.Rows L2
/-- a row on the heap -/
def RowH (H : Hp) (a : Addr) (row : List Nat) : Prop := H a = some (.lst (row.map vN))
theorem RowH.same {H H' : Hp} {a : Addr} {row : List Nat} (h : RowH H a row) (s : Same H H') : RowH H' a row := s _ _ h
theorem filt_some {bs : List Bd} {i : Nat} {b : Bd} {lo : Bool} (h : (bs.filter (isLo lo))[i]? = some b) : ∃ p k, b = some (lo, p, k) ∧ b ∈ bs := by
  have m := List.mem_of_getElem? h
  obtain ⟨m1, m2⟩ := List.mem_filter.mp m
  cases b with
  | none => cases m2
  | some x =>
    obtain ⟨lo2, p, k⟩ := x
    have : lo2 = lo := of_decide_eq_true m2
    subst this
    exact ⟨p, k, rfl, m1⟩
theorem filt_len (bs : List Bd) (lo : Bool) : (bs.filter (isLo lo)).length ≤ bs.length := List.length_filter_le _ _
theorem fm_map {α β : Type} (k : α → Option β) (f : β → V) (l : List α) : l.filterMap (fun x => (k x).map f) = (l.filterMap k).map f := by
  rw [List.map_filterMap]
theorem range_map_succ {α : Type} (f : Nat → α) (i : Nat) : (List.range (i + 1)).map f = (List.range i).map f ++ [f i] := by
  rw [List.range_succ, List.map_append]; rfl
theorem rowL_map (r : Nat → Nat) (E : Nat) : (rowL r E).map vN = (List.range E).map fun i => vN (r (i + 1)) := by
  unfold rowL
  rw [List.map_map]; rfl
section
variable {P : Program} {w : World} {K : PySem.W.Frag} {mg : Str → Option Value} {base : Heap}
def sp_Bounds_least_row (K : PySem.W.Frag) : Sp := fun vs H Q _ => ∃ (y : V) (U : List Un) (E : Nat) (bs : List Bd), vs = [y] ∧ BoV K H y U E bs ∧ UB U ∧ (∀ b ∈ bs, BOk U b) ∧ bs.length ≤ 1000 ∧ E ≤ 200 ∧ ∀ H' p, Same H H' → H p = none → RowH H' p (rowL (lowR U bs) E) → Q (.ref p) H'
abbrev n_Bounds_least_row : List Str := ["self", "is_lower", "position", "level", "lower", "found", "least", "end"]
theorem sc_Bounds_least_row : FnScope n_Bounds_least_row ["self"] (defScope s_Bounds_least_row) := ⟨rfl, rfl, rfl, by decide +kernel, rfl, by decide +kernel, by decide +kernel⟩
theorem ok_Bounds_least_row (T : Txt K mg) : ClM P w K mg base CX0 "Bounds" "least_row" ["self"] 3 (sp_Bounds_least_row K) := by
  obtain ⟨fd, F⟩ := T.def_ 66 (d := d_Bounds_least_row) rfl
  have C_known := ok_Bounds_known (P := P) (w := w) (base := base) T
  have C_block_end := ok_Places_block_end (P := P) (w := w) (base := base) T
  refine clm_ok (x := "Bounds") F (T.fact 125) (T.fact 134) (fun _ _ _ _ _ _ us hl => match us, hl with | [_], _ => rfl) sc_Bounds_least_row (fun vs H Q E h => ?_) (fun cdv A outer s H vs Q E hr h => ?_)
  · obtain ⟨y, U, E, bs, rfl, _⟩ := h
    rfl
  · obtain ⟨y, U, E, bs, rfl, hy, o, ho, hz, hE, k⟩ := h
    refine ⟨_, (pss_cons (ps_setLc (i := 4) (own := [("is_lower", 1), ("position", 2), ("level", 3)]) (g := (gTup K 3 (gCons (gName 1) (gCons (gName 2) (gCons (gName 3) gNil))))) (tt := tYes) rfl sc_Bounds_least_row.nd rfl rfl (sw_true rfl rfl rfl (by decide +kernel)) (pi_list (pe_clmK K C_known (hr.mono (by decide)) (pv 0) (pa_cons pe_bl pa_nil))) (blkOk_by (N := n_Bounds_least_row) (sc := defScope s_Bounds_least_row) (by decide +kernel)) (fun _ _ _ _ _ => (pg_tup rfl (pgs_cons (pg_name (i := 1) sc_Bounds_least_row.nd rfl (Or.inl rfl)) (pgs_cons (pg_name (i := 2) sc_Bounds_least_row.nd rfl (Or.inl rfl)) (pgs_cons (pg_name (i := 3) sc_Bounds_least_row.nd rfl (Or.inl rfl)) pgs_nil))))) (fun _ _ _ _ _ => pts_nil) (fun _ _ _ _ _ => (pe_tup (pa_cons (pv 3) (pa_cons (pe_clmK K C_block_end (hr.mono (by decide)) (pe_fldK K (pv 0)) (pa_cons (pv 3) (pa_cons (pv 2) pa_nil))) pa_nil)))))
      (pss_cons (ps_set (i := 5) sc_Bounds_least_row.nd rfl (Or.inl rfl) (pe_lst pa_nil))
      (pss_cons (ps_for PassesOwn.never rfl (pi_range2 (by rfl) (T.free 91) (pa_cons pe_int (pa_cons (pe_op oAdd (pe_fldK K (pv 0)) pe_int) pa_nil))) (pg_name (i := 3) sc_Bounds_least_row.nd rfl (Or.inr rfl))
        (pss_one (ps_expr (pe_bm PySem.F.plainAttrs_list PySem.F.slot_list_append PySem.F.type_list_append mt_append (pv 5) (pa_cons (pe_callBK (cr_maxDK K rfl hr.units) (by rfl) (T.free 94) bt_max (pa_cons (pe_lc (own := [("least", 6), ("end", 7)]) (g := (gTup K 2 (gCons (gName 6) (gCons (gName 7) gNil)))) rfl sc_Bounds_least_row.nd (pi_list (pv 4)) (blkOk_by (N := n_Bounds_least_row) (sc := defScope s_Bounds_least_row) (by decide +kernel)) (fun _ _ _ _ _ => (pg_tup rfl (pgs_cons (pg_name (i := 6) sc_Bounds_least_row.nd rfl (Or.inl rfl)) (pgs_cons (pg_name (i := 7) sc_Bounds_least_row.nd rfl (Or.inl rfl)) pgs_nil)))) (fun _ _ _ _ _ => (pts_one (pt_cmpR oGe (pv 6) (pv 3) (nomark _)))) (fun _ _ _ _ _ => (pv 7))) pa_nil) (pk_cons pe_int pk_nil)) pa_nil)))))
      (pss_one (ps_ret (pv 5)))))), ?_⟩
    have c := clB T
    have hy0 := hy
    obtain ⟨a, dx, fs, px, bl, rfl, ha, hf, hp, hl⟩ := hy0
    have hp0 := hp
    obtain ⟨pa, pdx, pfs, pg, rfl, hpa, hpf, _⟩ := hp0
    refine ⟨_, rfl, a, dx, fs, rfl, ha, hf.m7, .ref a, U, E, bs, true, rfl, hy, hz, fun H1 q s1 nq hq => ?_⟩
    obtain ⟨xs, hxs, hxl⟩ := hq.lst
    have fl := filt_len bs true
    refine ⟨q, rfl, ⟨_, SqL.h hxs⟩, fun D nD => lcL_rows (xs := xs) (fun i => (bs.filter (isLo true))[i]?.bind fun b => b.map fun x => [vN x.2.2, vN (be x.2.2 U x.2.1)]) (by omega) nD (SqL.h hxs) (fun i v H2 hx s2 Qc Qn t => ?_) fun H2 s2 hD => ?_⟩
    · obtain ⟨b, e1, e2⟩ := (hq.same stabBd s2).row (s2 _ _ hxs) hx
      obtain ⟨p, kk, rfl, hm⟩ := filt_some e1
      obtain ⟨hp1, hk1⟩ := ho _ hm
      obtain ⟨t0, rfl, ht0⟩ := e2
      unfold TurnR at t
      rw [e1] at t
      have t' : ∀ v H', Same H2 H' → RowV H' v [vN kk, vN (be kk U p)] → Qc v H' := t
      refine ⟨t0, _, rfl, SqT.h ht0, rfl, _, _, rfl, _, _, rfl, _, _, rfl, rfl, rfl, ?_⟩
      have S := s1.trans s2
      refine ⟨_, rfl, _, rfl, a, gaB K, dx, fs, _, rfl, S _ _ ha, c, naP T, hf.a, pa, pdx, pfs, rfl, S _ _ hpa, hpf.m4, _, rfl, _, rfl, .ref pa, U, kk, p, rfl, hp.same S, o, hk1, hp1, fun H3 s3 => ⟨z2, fun u nu => t' _ _ (s3.trans (Same.new nu)) ⟨u, rfl, upd_same⟩⟩⟩
    · have eD : (List.range xs.length).filterMap (fun i => (bs.filter (isLo true))[i]?.bind fun b => b.map fun x => [vN x.2.2, vN (be x.2.2 U x.2.1)]) = enN (lwr U bs) := by
        rw [hxl, fm_rows (rows := bs.filter (isLo true)) (k := fun b : Bd => b.map fun x => [vN x.2.2, vN (be x.2.2 U x.2.1)]) (fun i r h => by rw [h]; rfl)]
        unfold enN lwr
        rw [List.map_filterMap]
        congr 1
        funext b
        cases b <;> rfl
      rw [eD] at hD
      have S := s1.trans s2
      have lz : (lwr U bs).length ≤ 1000 := by
        unfold lwr
        exact Nat.le_trans (List.length_filterMap_le _ _) (Nat.le_trans fl hz)
      refine ⟨z0, fun l nl => ?_⟩
      have s3 : Same H2 (upd H2 l (.lst [])) := Same.new nl
      have nl0 : H l = none := S.free nl
      refine ⟨_, rfl, a, gaB K, dx, fs, _, rfl, s3 _ _ (S _ _ ha), c, naE T, hf.b, E, 1, rfl, rfl, 1, ((E + 1 : Nat) : Int), rfl, ⟨by decide, by decide, by omega, by omega⟩, ?_⟩
      have en : (((E + 1 : Nat) : Int) - 1).toNat = E := by omega
      rw [en]
      have D0 : LT (upd H2 l (.lst [])) D (enN (lwr U bs)) := hD.same s3
      have Dl : D ≠ l := by
        rintro rfl
        obtain ⟨q, hq, _⟩ := hD.lst
        rw [nl] at hq; cases hq
      refine for_range (lo := 1) (n := E) (fun i σ H' => Same H H' ∧ LT H' D (enN (lwr U bs)) ∧ H' l = some (.lst ((List.range i).map fun j => vN (lowR U bs (j + 1)))) ∧ ∃ v1 v2 v3 v6 v7 : Option V, σ = [some (.ref a), v1, v2, v3, some (.ref D), some (.ref l), v6, v7])
        ⟨S.trans s3, D0, upd_same, _, _, _, _, _, rfl⟩ ?_ ?_
      · rintro i σ H' hi ⟨sH, hD', hl', v1, v2, v3, v6, v7, rfl⟩
        obtain ⟨ds, hds, hdl⟩ := hD'.lst
        rw [enN_len] at hdl
        have ej : (1 : Int) + (i : Nat) = ((i + 1 : Nat) : Int) := by omega
        refine ⟨_, rfl, .inl ⟨rfl, _, SqL.h hl'⟩, _, rfl, D, rfl, ⟨_, SqL.h hds⟩, fun D2 nD2 => lcL_flat (xs := ds) (fun j => (lwr U bs)[j]?.bind fun x => if i + 1 ≤ x.1 then some (vN x.2) else none) (by omega) nD2 (SqL.h hds) (fun j x H3 hx s4 Qc Qn t => ?_) fun H3 s4 hD2 => ?_⟩
        · obtain ⟨r, t0, e1, rfl, e3⟩ := (hD'.same s4).row (s4 _ _ hds) hx
          obtain ⟨⟨lv, en⟩, e4, rfl⟩ := enN_get e1
          unfold TurnF at t
          rw [e4] at t
          refine ⟨t0, _, rfl, SqT.h e3, rfl, _, _, rfl, _, _, rfl, rfl, rfl, ?_⟩
          refine ⟨_, rfl, _, rfl, ?_⟩
          rw [ej]
          refine ⟨lv, i + 1, rfl, rfl, ?_⟩
          by_cases h1 : i + 1 ≤ lv
          · simp only [Option.bind_some, if_pos h1] at t
            refine ⟨true, decT h1, iteT ⟨_, rfl, t _ (Same.refl _)⟩⟩
          · simp only [Option.bind_some, if_neg h1] at t
            exact ⟨false, decF h1, iteF (t _ (Same.refl _))⟩
        · have e2 : (List.range ds.length).filterMap (fun j => (lwr U bs)[j]?.bind fun x => if i + 1 ≤ x.1 then some (vN x.2) else none) = (lows U bs (i + 1)).map vN := by
            rw [hdl, fm_rows (rows := lwr U bs) (k := fun x : Nat × Nat => if i + 1 ≤ x.1 then some (vN x.2) else none) (fun i r h => by rw [h]; rfl), ← lwr_lows, List.map_filterMap]
            congr 1
            funext x
            by_cases h1 : i + 1 ≤ x.1
            · rw [if_pos h1, if_pos h1]; rfl
            · rw [if_neg h1, if_neg h1]; rfl
          rw [e2] at hD2
          refine ⟨D2, _, 0, rfl, rfl, SqL.h hD2, ?_⟩
          rw [bst_max]
          have hl3 := s4 _ _ hl'
          refine ⟨l, _, _, rfl, rfl, hl3, by rw [List.length_map, List.length_range]; exact slt (by omega), ?_⟩
          refine ⟨Same.mut (sH.trans s4) nl0, (hD'.same s4).mod Dl hl3 Mod.upd, ?_, _, _, _, _, _, rfl⟩
          rw [upd_same, range_map_succ]
          rfl
      · rintro σ H' ⟨sH, hD', hl', v1, v2, v3, v6, v7, rfl⟩
        refine ⟨_, rfl, k H' l sH nl0 ?_⟩
        show H' l = _
        rw [hl', rowL_map]
end
end Sl


end
section
set_option Elab.async false
set_option linter.all false
set_option maxRecDepth 100000
set_option maxHeartbeats 4000000
namespace Sl
open PySem PySem.Spec PyProof.Rows L2
theorem countP_len (row : List Nat) (p : Nat) : (row.filterMap fun x => if p < x then some (vN x) else none).length = levIn row p := by
  unfold levIn
  induction row with
  | nil => rfl
  | cons x r ih =>
    rw [List.filterMap_cons, List.countP_cons]
    by_cases h : p < x
    · rw [if_pos h, if_pos (decide_eq_true h), List.length_cons, ih]
    · rw [if_neg h, if_neg (by simpa using h), ih]; rfl
/-- what a row counts -/
theorem row_sum (bs : List (Ch × Nat)) (l : Nat) : (bs.filterMap fun x => if l ≤ x.1.2 then some (wd x.1.1 x.1.2 * x.2) else none).sum = cnt l (lvs (exR bs)) := by
  induction bs with
  | nil => rfl
  | cons b r ih =>
    have e : lvs (List.replicate b.2 b.1) = List.replicate (b.2 * wd b.1.1 b.1.2) b.1.2 := lvs_rep b.1.1 b.1.2 b.2
    rw [exR_cons, lvs_app, e, cnt_app, cnt_rep, List.filterMap_cons, ← ih]
    by_cases h : l ≤ b.1.2
    · rw [if_pos h, if_pos h, List.sum_cons, Nat.mul_comm]
    · rw [if_neg h, if_neg h, Nat.zero_add]
section
variable {P : Program} {w : World} {K : PySem.W.Frag} {mg : Str → Option Value} {base : Heap}
def sp_Bounds_greatest_row (K : PySem.W.Frag) : Sp := fun vs H Q _ => ∃ (y : V) (U : List Un) (E : Nat) (bs : List Bd), vs = [y] ∧ BoV K H y U E bs ∧ UB U ∧ (∀ b ∈ bs, BOk U b) ∧ bs.length ≤ 1000 ∧ E ≤ 200 ∧ ∀ H' p, Same H H' → H p = none → RowH H' p (rowL (upR U bs) E) → Q (.ref p) H'
abbrev n_Bounds_greatest_row : List Str := ["self", "found", "level", "is_lower", "position", "most", "upper"]
theorem sc_Bounds_greatest_row : FnScope n_Bounds_greatest_row ["self"] (defScope s_Bounds_greatest_row) := ⟨rfl, rfl, rfl, by decide +kernel, rfl, by decide +kernel, by decide +kernel⟩
theorem ok_Bounds_greatest_row (T : Txt K mg) : ClM P w K mg base CX0 "Bounds" "greatest_row" ["self"] 3 (sp_Bounds_greatest_row K) := by
  obtain ⟨fd, F⟩ := T.def_ 67 (d := d_Bounds_greatest_row) rfl
  have C_known := ok_Bounds_known (P := P) (w := w) (base := base) T
  have C_place_until := ok_Places_place_until (P := P) (w := w) (base := base) T
  refine clm_ok (x := "Bounds") F (T.fact 125) (T.fact 135) (fun _ _ _ _ _ _ us hl => match us, hl with | [_], _ => rfl) sc_Bounds_greatest_row (fun vs H Q E h => ?_) (fun cdv A outer s H vs Q E hr h => ?_)
  · obtain ⟨y, U, E, bs, rfl, _⟩ := h
    rfl
  · obtain ⟨y, U, E, bs, rfl, hy, o, ho, hz, hE, k⟩ := h
    refine ⟨_, (pss_cons (ps_set (i := 1) sc_Bounds_greatest_row.nd rfl (Or.inl rfl) (pe_lst pa_nil))
      (pss_cons (ps_for PassesOwn.never rfl (pi_range2 (by rfl) (T.free 91) (pa_cons pe_int (pa_cons (pe_op oAdd (pe_fldK K (pv 0)) pe_int) pa_nil))) (pg_name (i := 2) sc_Bounds_greatest_row.nd rfl (Or.inr rfl))
        (pss_cons (ps_setLc (i := 6) (own := [("is_lower", 3), ("position", 4), ("most", 5)]) (g := (gTup K 3 (gCons (gName 3) (gCons (gName 4) (gCons (gName 5) gNil))))) rfl sc_Bounds_greatest_row.nd rfl rfl (sw_true rfl rfl rfl (by decide +kernel)) (pi_list (pe_clmK K C_known (hr.mono (by decide)) (pv 0) (pa_cons pe_bl pa_nil))) (blkOk_by (N := n_Bounds_greatest_row) (sc := defScope s_Bounds_greatest_row) (by decide +kernel)) (fun _ _ _ _ _ => (pg_tup rfl (pgs_cons (pg_name (i := 3) sc_Bounds_greatest_row.nd rfl (Or.inl rfl)) (pgs_cons (pg_name (i := 4) sc_Bounds_greatest_row.nd rfl (Or.inl rfl)) (pgs_cons (pg_name (i := 5) sc_Bounds_greatest_row.nd rfl (Or.inl rfl)) pgs_nil))))) (fun _ _ _ _ _ => (pts_one (pt_cmpR oLt (pv 5) (pv 2) (nomark _)))) (fun _ _ _ _ _ => (pv 4)))
        (pss_one (ps_expr (pe_bm PySem.F.plainAttrs_list PySem.F.slot_list_append PySem.F.type_list_append mt_append (pv 1) (pa_cons (pe_clmK K C_place_until (hr.mono (by decide)) (pe_fldK K (pv 0)) (pa_cons (pv 2) (pa_cons (pe_callBK (cr_minDK K rfl hr.units) (by rfl) (T.free 95) bt_min (pa_cons (pv 6) pa_nil) (pk_cons (pe_fldK K (pe_fldK K (pv 0))) pk_nil)) pa_nil))) pa_nil))))))
      (pss_one (ps_ret (pv 1))))), ?_⟩
    have c := clB T
    have hy0 := hy
    obtain ⟨a, dx, fs, px, bl, rfl, ha, hf, hp, hl⟩ := hy0
    have hp0 := hp
    obtain ⟨pa, pdx, pfs, pg, rfl, hpa, hpf, _⟩ := hp0
    refine ⟨z0, fun l nl => ?_⟩
    have s0 : Same H (upd H l (.lst [])) := Same.new nl
    refine ⟨_, rfl, a, gaB K, dx, fs, _, rfl, s0 _ _ ha, c, naE T, hf.b, E, 1, rfl, rfl, 1, ((E + 1 : Nat) : Int), rfl, ⟨by decide, by decide, by omega, by omega⟩, ?_⟩
    have en : (((E + 1 : Nat) : Int) - 1).toNat = E := by omega
    rw [en]
    refine for_range (lo := 1) (n := E) (fun i σ H' => Same H H' ∧ H' l = some (.lst ((List.range i).map fun j => vN (upR U bs (j + 1)))) ∧ ∃ v2 v3 v4 v5 v6 : Option V, σ = [some (.ref a), some (.ref l), v2, v3, v4, v5, v6])
      ⟨s0, upd_same, _, _, _, _, _, rfl⟩ ?_ ?_
    · rintro i σ H' hi ⟨sH, hl', v2, v3, v4, v5, v6, rfl⟩
      have ej : (1 : Int) + (i : Nat) = ((i + 1 : Nat) : Int) := by omega
      refine ⟨_, rfl, a, dx, fs, rfl, sH _ _ ha, hf.m7, .ref a, U, E, bs, false, rfl, hy.same sH, hz, fun H1 q s1 nq hq => ?_⟩
      obtain ⟨xs, hxs, hxl⟩ := hq.lst
      have fl := filt_len bs false
      refine ⟨q, rfl, ⟨_, SqL.h hxs⟩, fun D nD => lcL_flat (xs := xs) (fun j => (bs.filter (isLo false))[j]?.bind fun b => b.bind fun x => if x.2.2 < i + 1 then some (vN x.2.1) else none) (by omega) nD (SqL.h hxs) (fun j v H2 hx s2 Qc Qn t => ?_) fun H2 s2 hD => ?_⟩
      · obtain ⟨b, e1, e2⟩ := (hq.same stabBd s2).row (s2 _ _ hxs) hx
        obtain ⟨p, kk, rfl, hm⟩ := filt_some e1
        obtain ⟨t0, rfl, ht0⟩ := e2
        unfold TurnF at t
        rw [e1] at t
        refine ⟨t0, _, rfl, SqT.h ht0, rfl, _, _, rfl, _, _, rfl, _, _, rfl, rfl, rfl, ?_⟩
        refine ⟨_, rfl, _, rfl, ?_⟩
        rw [ej]
        refine ⟨kk, i + 1, rfl, rfl, ?_⟩
        by_cases h1 : kk < i + 1
        · simp only [Option.bind_some, if_pos h1] at t
          exact ⟨true, decT h1, iteT ⟨_, rfl, t _ (Same.refl _)⟩⟩
        · simp only [Option.bind_some, if_neg h1] at t
          exact ⟨false, decF h1, iteF (t _ (Same.refl _))⟩
      · have e2 : (List.range xs.length).filterMap (fun j => (bs.filter (isLo false))[j]?.bind fun b => b.bind fun x => if x.2.2 < i + 1 then some (vN x.2.1) else none) = (ups bs (i + 1)).map vN := by
          rw [hxl, fm_rows (rows := bs.filter (isLo false)) (k := fun b : Bd => b.bind fun x => if x.2.2 < i + 1 then some (vN x.2.1) else none) (fun i r h => by rw [h]; rfl), ← upr_ups, List.map_filterMap]
          congr 1
          funext b
          cases b with
          | none => rfl
          | some x =>
            show (if x.2.2 < i + 1 then some (vN x.2.1) else none) = Option.map vN (if x.2.2 < i + 1 then some x.2.1 else none)
            by_cases h1 : x.2.2 < i + 1
            · rw [if_pos h1, if_pos h1]; rfl
            · rw [if_neg h1, if_neg h1]; rfl
        rw [e2] at hD
        have S := (sH.trans s1).trans s2
        have hup : ∀ x ∈ ups bs (i + 1), x ≤ tot U := fun x hx => by
          obtain ⟨m, hm, _⟩ := mem_ups.mp hx
          exact Nat.le_of_lt (ho _ hm).1
        refine ⟨_, rfl, .inl ⟨rfl, _, SqL.h (s2 _ _ (s1 _ _ hl'))⟩, ?_⟩
        refine ⟨_, rfl, a, gaB K, dx, fs, _, rfl, S _ _ ha, c, naP T, hf.a, pa, pdx, pfs, rfl, S _ _ hpa, hpf.m3, _, rfl, _, rfl, _, rfl, a, gaB K, dx, fs, _, rfl, S _ _ ha, c, naP T, hf.a, pa, gaL K, pdx, pfs, _, rfl, S _ _ hpa, meL T, He.noat_ok (T.fact 118 (f := .noat "Places" "length") rfl), hpf.a, ?_⟩
        refine ⟨D, _, tot U, rfl, rfl, SqL.h hD, ?_⟩
        rw [bst_min hup, ej]
        refine ⟨.ref pa, U, i + 1, minL (tot U) (ups bs (i + 1)), rfl, hp.same S, o, by omega, (minL_le _ _).1, fun H3 s3 => ?_⟩
        have hl3 := s3 _ _ (s2 _ _ (s1 _ _ hl'))
        refine ⟨l, _, _, rfl, rfl, hl3, by rw [List.length_map, List.length_range]; exact slt (by omega), ?_⟩
        refine ⟨Same.mut (S.trans s3) nl, ?_, _, _, _, _, _, rfl⟩
        rw [upd_same, range_map_succ]
        rfl
    · rintro σ H' ⟨sH, hl', v2, v3, v4, v5, v6, rfl⟩
      refine ⟨_, rfl, k H' l sH nl ?_⟩
      show H' l = _
      rw [hl', rowL_map]
/-! ### level_in, holds -/
def sp_level_in : Sp := fun vs H Q _ => ∃ (a : Addr) (row : List Nat) (p : Nat), vs = [.ref a, vN p] ∧ RowH H a row ∧ row.length ≤ 1000 ∧ ∀ H', Same H H' → Q (vN (levIn row p)) H'
abbrev n_level_in : List Str := ["row", "position", "place"]
theorem sc_level_in : FnScope n_level_in ["row", "position"] (defScope s_level_in) := ⟨rfl, rfl, rfl, by decide +kernel, rfl, by decide +kernel, by decide +kernel⟩
theorem ok_level_in (T : Txt K mg) : Cl P w K mg base CX0 "level_in" ["row", "position"] 1 [] sp_level_in := by
  obtain ⟨fd, F⟩ := T.def_ 69 (d := d_level_in) rfl
  refine cl_ok F (T.glo 52) (fun _ _ _ _ _ _ us hl => match us, hl with | [_, _], _ => rfl) sc_level_in (fun vs H Q E h => ?_) (fun cdv A outer s H vs Q E hr h => ?_)
  · obtain ⟨a, row, p, rfl, _⟩ := h
    rfl
  · obtain ⟨a, row, p, rfl, ha, hz, k⟩ := h
    refine ⟨_, (pss_one (ps_ret (pe_callB (call_len_seqK K) (by rfl) (T.free 83) bt_len (pa_cons (pe_lc (own := [("place", 2)]) (g := (gName 2)) rfl sc_level_in.nd (pi_list (pv 0)) (blkOk_by (N := n_level_in) (sc := defScope s_level_in) (by decide +kernel)) (fun _ _ _ _ _ => (pg_name (i := 2) sc_level_in.nd rfl (Or.inl rfl))) (fun _ _ _ _ _ => (pts_one (pt_cmpR oGt (pv 2) (pv 1) (nomark _)))) (fun _ _ _ _ _ => (pv 2))) pa_nil)))), ?_⟩
    have ha : H a = some (.lst (row.map vN)) := ha
    refine ⟨_, rfl, a, rfl, ⟨_, SqL.h ha⟩, fun D nD => lcL_flat (xs := row.map vN) (fun i => row[i]?.bind fun x => if p < x then some (vN x) else none) (by rw [List.length_map]; omega) nD (SqL.h ha) (fun i v H2 hx s2 Qc Qn t => ?_) fun H2 s2 hD => ?_⟩
    · rw [List.getElem?_map] at hx
      cases e : row[i]? with
      | none => rw [e] at hx; cases hx
      | some x =>
        rw [e] at hx
        have : v = vN x := (Option.some.inj hx).symm
        subst this
        unfold TurnF at t
        rw [e] at t
        refine ⟨rfl, _, rfl, _, rfl, x, p, rfl, rfl, ?_⟩
        by_cases h1 : p < x
        · simp only [Option.bind_some, if_pos h1] at t
          exact ⟨true, decT h1, iteT ⟨_, rfl, t _ (Same.refl _)⟩⟩
        · simp only [Option.bind_some, if_neg h1] at t
          exact ⟨false, decF h1, iteF (t _ (Same.refl _))⟩
    · have e2 : (List.range (row.map vN).length).filterMap (fun i => row[i]?.bind fun x => if p < x then some (vN x) else none) = row.filterMap fun x => if p < x then some (vN x) else none := by
        rw [List.length_map, fm_rows (rows := row) (k := fun x : Nat => if p < x then some (vN x) else none) (fun i r h => by rw [h]; rfl)]
      rw [e2] at hD
      refine ⟨D, _, rfl, .inl (SqL.h hD), ?_⟩
      rw [countP_len]
      exact k _ s2
def sp_holds : Sp := fun vs H Q _ => ∃ (v : V) (b : Bd) (a : Addr) (row : List Nat), vs = [v, .ref a] ∧ BdV H v b ∧ RowH H a row ∧ row.length ≤ 1000 ∧ ∀ H', Same H H' → Q (.bl (satR row b)) H'
abbrev n_holds : List Str := ["bound", "row", "is_lower", "position", "level"]
theorem sc_holds : FnScope n_holds ["bound", "row"] (defScope s_holds) := ⟨rfl, rfl, rfl, by decide +kernel, rfl, by decide +kernel, by decide +kernel⟩
theorem ok_holds (T : Txt K mg) : Cl P w K mg base CX0 "holds" ["bound", "row"] 2 [] sp_holds := by
  obtain ⟨fd, F⟩ := T.def_ 71 (d := d_holds) rfl
  have C_level_in := ok_level_in (P := P) (w := w) (base := base) T
  refine cl_ok F (T.glo 54) (fun _ _ _ _ _ _ us hl => match us, hl with | [_, _], _ => rfl) sc_holds (fun vs H Q E h => ?_) (fun cdv A outer s H vs Q E hr h => ?_)
  · obtain ⟨v, b, a, row, rfl, _⟩ := h
    rfl
  · obtain ⟨v, b, a, row, rfl, hv, ha, hz, k⟩ := h
    refine ⟨_, (pss_cons (ps_if (pt_cmpR op_isN (pv 0) pe_non (nomark _))
        (pss_one (ps_ret pe_bl))
        pss_nil)
      (pss_cons (ps_asg (pv 0) (pg_tup rfl (pgs_cons (pg_name (i := 2) sc_holds.nd rfl (Or.inl rfl)) (pgs_cons (pg_name (i := 3) sc_holds.nd rfl (Or.inl rfl)) (pgs_cons (pg_name (i := 4) sc_holds.nd rfl (Or.inl rfl)) pgs_nil)))))
      (pss_one (ps_ret (pe_ifExp (pt_val (pv 2)) (pe_cmpR oGe (pe_cl C_level_in (hr.mono (by decide)) (pa_cons (pv 1) (pa_cons (pv 3) pa_nil))) (pv 4) (nomark _)) (pe_cmpR oLe (pe_cl C_level_in (hr.mono (by decide)) (pa_cons (pv 1) (pa_cons (pv 3) pa_nil))) (pv 4) (nomark _))))))), ?_⟩
    cases b with
    | none =>
      have hv : v = .non := hv
      subst hv
      exact ⟨_, rfl, rfl, true, rfl, iteT (k _ (Same.refl _))⟩
    | some x =>
      obtain ⟨lo, p, kk⟩ := x
      obtain ⟨t, rfl, ht⟩ := hv
      refine ⟨_, rfl, rfl, false, rfl, iteF ?_⟩
      refine ⟨_, rfl, t, _, rfl, SqT.h ht, rfl, _, _, rfl, _, _, rfl, _, _, rfl, rfl, ?_⟩
      refine ⟨_, rfl, lo, rfl, ?_⟩
      cases lo with
      | true =>
        refine iteT ?_
        exact ⟨_, rfl, _, rfl, a, row, p, rfl, ha, hz, fun H2 s2 => ⟨_, rfl, levIn row p, kk, rfl, rfl, k _ s2⟩⟩
      | false =>
        refine iteF ?_
        exact ⟨_, rfl, _, rfl, a, row, p, rfl, ha, hz, fun H2 s2 => ⟨_, rfl, levIn row p, kk, rfl, rfl, k _ s2⟩⟩
/-! ### row_of -/
def sp_row_of : Sp := fun vs H Q _ => ∃ (a : Addr) (bs : List (Ch × Nat)) (E : Nat), vs = [.ref a, vN E] ∧ LT H a (enB bs) ∧ BsOk bs ∧ E ≤ 200 ∧ ∀ H' p, Same H H' → H p = none → RowH H' p (rowL (fun l => cnt l (lvs (exR bs))) E) → Q (.ref p) H'
abbrev n_row_of : List Str := ["blocks", "escapes", "found", "least", "symbol", "level", "count"]
theorem sc_row_of : FnScope n_row_of ["blocks", "escapes"] (defScope s_row_of) := ⟨rfl, rfl, rfl, by decide +kernel, rfl, by decide +kernel, by decide +kernel⟩
theorem ok_row_of (T : Txt K mg) : Cl P w K mg base CX0 "row_of" ["blocks", "escapes"] 3 [] sp_row_of := by
  obtain ⟨fd, F⟩ := T.def_ 57 (d := d_row_of) rfl
  have C_width_of := ok_width_of (P := P) (w := w) (base := base) T
  refine cl_ok F (T.glo 48) (fun _ _ _ _ _ _ us hl => match us, hl with | [_, _], _ => rfl) sc_row_of (fun vs H Q E h => ?_) (fun cdv A outer s H vs Q E hr h => ?_)
  · obtain ⟨a, bs, E, rfl, _⟩ := h
    rfl
  · obtain ⟨a, bs, E, rfl, ha, o, hE, k⟩ := h
    refine ⟨_, (pss_cons (ps_set (i := 2) sc_row_of.nd rfl (Or.inl rfl) (pe_lst pa_nil))
      (pss_cons (ps_for PassesOwn.never rfl (pi_range2 (by rfl) (T.free 91) (pa_cons pe_int (pa_cons (pe_op oAdd (pv 1) pe_int) pa_nil))) (pg_name (i := 3) sc_row_of.nd rfl (Or.inr rfl))
        (pss_one (ps_expr (pe_bm PySem.F.plainAttrs_list PySem.F.slot_list_append PySem.F.type_list_append mt_append (pv 2) (pa_cons (pe_callB (cr_sumK K rfl) (by rfl) (T.free 90) bt_sum (pa_cons (pe_lc (own := [("symbol", 4), ("level", 5), ("count", 6)]) (g := (gTup K 3 (gCons (gName 4) (gCons (gName 5) (gCons (gName 6) gNil))))) rfl sc_row_of.nd (pi_list (pv 0)) (blkOk_by (N := n_row_of) (sc := defScope s_row_of) (by decide +kernel)) (fun _ _ _ _ _ => (pg_tup rfl (pgs_cons (pg_name (i := 4) sc_row_of.nd rfl (Or.inl rfl)) (pgs_cons (pg_name (i := 5) sc_row_of.nd rfl (Or.inl rfl)) (pgs_cons (pg_name (i := 6) sc_row_of.nd rfl (Or.inl rfl)) pgs_nil))))) (fun _ _ _ _ _ => (pts_one (pt_cmpR oGe (pv 5) (pv 3) (nomark _)))) (fun _ _ _ _ _ => (pe_op oMul (pe_cl C_width_of (hr.mono (by decide)) (pa_cons (pv 4) (pa_cons (pv 5) pa_nil))) (pv 6)))) pa_nil)) pa_nil)))))
      (pss_one (ps_ret (pv 2))))), ?_⟩
    obtain ⟨xs, hxs, hxl⟩ := ha.lst
    rw [enB_len] at hxl
    have hnum := o.num
    refine ⟨z0, fun l nl => ?_⟩
    have s0 : Same H (upd H l (.lst [])) := Same.new nl
    refine ⟨_, rfl, E, 1, rfl, rfl, 1, ((E + 1 : Nat) : Int), rfl, ⟨by decide, by decide, by omega, by omega⟩, ?_⟩
    have en : (((E + 1 : Nat) : Int) - 1).toNat = E := by omega
    rw [en]
    refine for_range (lo := 1) (n := E) (fun i σ H' => Same H H' ∧ H' l = some (.lst ((List.range i).map fun j => vN (cnt (j + 1) (lvs (exR bs))))) ∧ ∃ v3 v4 v5 v6 : Option V, σ = [some (.ref a), some (vN E), some (.ref l), v3, v4, v5, v6])
      ⟨s0, upd_same, _, _, _, _, rfl⟩ ?_ ?_
    · rintro i σ H' hi ⟨sH, hl', v3, v4, v5, v6, rfl⟩
      have ej : (1 : Int) + (i : Nat) = ((i + 1 : Nat) : Int) := by omega
      refine ⟨_, rfl, .inl ⟨rfl, _, SqL.h hl'⟩, _, rfl, a, rfl, ⟨_, SqL.h (sH _ _ hxs)⟩, fun D nD => lcL_flat (xs := xs) (fun j => bs[j]?.bind fun x => if i + 1 ≤ x.1.2 then some (vN (wd x.1.1 x.1.2 * x.2)) else none) (by omega) nD (SqL.h (sH _ _ hxs)) (fun j v H2 hx s2 Qc Qn t => ?_) fun H2 s2 hD => ?_⟩
      · obtain ⟨r, t0, e1, rfl, e3⟩ := (ha.same (sH.trans s2)).row ((sH.trans s2) _ _ hxs) hx
        obtain ⟨⟨⟨z, lv⟩, n⟩, e4, rfl⟩ := enB_get e1
        obtain ⟨_, hlv, _, _, _, hc, hw⟩ := o.wid (List.mem_of_getElem? e4)
        unfold TurnF at t
        rw [e4] at t
        refine ⟨t0, _, rfl, SqT.h e3, rfl, _, _, rfl, _, _, rfl, _, _, rfl, rfl, rfl, ?_⟩
        refine ⟨_, rfl, _, rfl, ?_⟩
        rw [ej]
        refine ⟨lv, i + 1, rfl, rfl, ?_⟩
        by_cases h1 : i + 1 ≤ lv
        · simp only [Option.bind_some, if_pos h1] at t
          exact ⟨true, decT h1, iteT ⟨_, rfl, _, rfl, z, lv, rfl, by omega, _, rfl, wd z lv, n, rfl, rfl, ⟨hw, hc⟩, t _ (Same.refl _)⟩⟩
        · simp only [Option.bind_some, if_neg h1] at t
          exact ⟨false, decF h1, iteF (t _ (Same.refl _))⟩
      · have e2 : (List.range xs.length).filterMap (fun j => bs[j]?.bind fun x => if i + 1 ≤ x.1.2 then some (vN (wd x.1.1 x.1.2 * x.2)) else none) = ((bs.filterMap fun x => if i + 1 ≤ x.1.2 then some (wd x.1.1 x.1.2 * x.2) else none).map fun n : Nat => (n : Int)).map V.int := by
          rw [hxl, fm_rows (rows := bs) (k := fun x : Ch × Nat => if i + 1 ≤ x.1.2 then some (vN (wd x.1.1 x.1.2 * x.2)) else none) (fun i r h => by rw [h]; rfl), List.map_map, List.map_filterMap]
          congr 1
          funext x
          by_cases h1 : i + 1 ≤ x.1.2
          · rw [if_pos h1, if_pos h1]; rfl
          · rw [if_neg h1, if_neg h1]; rfl
        rw [e2] at hD
        refine ⟨D, _, rfl, SqL.h hD, ?_⟩
        rw [sum_cast, row_sum]
        have hl3 := s2 _ _ hl'
        refine ⟨l, _, _, rfl, rfl, hl3, by rw [List.length_map, List.length_range]; exact slt (by omega), ?_⟩
        refine ⟨Same.mut (sH.trans s2) nl, ?_, _, _, _, _, rfl⟩
        rw [upd_same, range_map_succ]
    · rintro σ H' ⟨sH, hl', v3, v4, v5, v6, rfl⟩
      refine ⟨_, rfl, k H' l sH nl ?_⟩
      show H' l = _
      rw [hl', rowL_map]
end
end Sl


end
section
set_option Elab.async false
set_option linter.all false
set_option maxRecDepth 100000
set_option maxHeartbeats 4000000
namespace Sl
open PySem PySem.Spec PyProof.Rows L2
/-- text, escapes, facts -/
structure AQ (U : List Un) (M : Nat) (fs : List Fact) : Prop where
  o : UB U
  e : M ≤ 200
  f : ∀ f ∈ fs, FOk U f
  n : fs.length ≤ 400
noncomputable def bdFs (U : List Un) (fs : List Fact) : List Bd := fs.map (bdF U)
section
variable {U : List Un} {M : Nat} {fs : List Fact}
theorem AQ.bk (q : AQ U M fs) : ∀ b ∈ bdFs U fs, BOk U b := fun b hb => by
  obtain ⟨f, hf, rfl⟩ := List.mem_map.mp hb
  exact bdF_ok q.o.tot (q.f f hf)
theorem AQ.bd (q : AQ U M fs) : ∀ b ∈ bdFs U fs, BdOk U b := fun b hb => (q.bk b hb).bd
theorem AQ.len (q : AQ U M fs) : (bdFs U fs).length ≤ 1000 := by
  unfold bdFs
  rw [List.length_map]
  have := q.n
  omega
theorem AQ.uok (q : AQ U M fs) : UOk U := q.o.wu.ok
end
theorem rowL_len (r : Nat → Nat) (E : Nat) : (rowL r E).length = E := by
  unfold rowL
  rw [List.length_map, List.length_range]
theorem rowL_congr {r s : Nat → Nat} {E : Nat} (h : ∀ l, 1 ≤ l → l ≤ E → r l = s l) : rowL r E = rowL s E := by
  unfold rowL
  refine List.map_congr_left fun i hi => ?_
  have := List.mem_range.mp hi
  exact h (i + 1) (by omega) (by omega)
theorem up_row (U : List Un) (E : Nat) (bs : List Bd) : rowL (upR U bs) E = rowL (upE U E bs) E := rowL_congr fun l h1 h2 => by
  unfold upE
  rw [if_neg (by omega), if_pos h2]
theorem low_row (U : List Un) (E : Nat) (bs : List Bd) : rowL (lowR U bs) E = rowL (lowE U bs) E := rowL_congr fun l h1 h2 => by
  unfold lowE
  rw [if_neg (by omega)]
theorem up_lev' {U : List Un} {E : Nat} {bs : List Bd} (o : UOk U) {p : Nat} (hp : p < tot U) : levIn (rowL (upR U bs) E) p = lev (upLs U E bs) p := by
  have H := upHl (E := E) (bs := bs) o
  rw [up_row]
  exact levIn_row H.dn (by rw [H.len]; exact hp) H.le fun l _ _ => ((up_rw o bs).cnt l).symm
theorem low_lev' {U : List Un} {E : Nat} {bs : List Bd} (o : UOk U) (c : Cons U E bs) {p : Nat} (hp : p < tot U) : levIn (rowL (lowR U bs) E) p = lev (lowLs U E bs) p := by
  have H := c.lowHl o
  rw [low_row]
  exact levIn_row H.dn (by rw [H.len]; exact hp) H.le fun l _ _ => ((c.low o).cnt l).symm
theorem cs_lev {U : List Un} {E : Nat} {cs : List Ch} (h : HB U E cs) {p : Nat} (hp : p < tot U) : levIn (rowL (fun l => cnt l (lvs cs)) E) p = lev (lvs cs) p :=
  levIn_row h.hc.dn (by rw [h.tot]; exact hp) h.hc.le fun _ _ _ => rfl
section
variable {P : Program} {w : World} {K : PySem.W.Frag} {mg : Str → Option Value} {base : Heap}
/-! ### history_by -/
def sp_history_by : Sp := fun vs H Q _ => ∃ (a b : Addr) (U : List Un) (E : Nat) (r : Nat → Nat), vs = [.ref a, .ref b] ∧ LT H a (enR (rnT U)) ∧ UB U ∧ RowH H b (rowL r E) ∧ Rw U E r ∧ E ≤ 200 ∧ ∀ H' p, Same H H' → H p = none → LT H' p (enB (rn yes (bwu U (stk r E)))) → Q (.ref p) H'
abbrev n_history_by : List Str := ["text", "row", "runs", "ends", "level", "stretches", "one"]
theorem sc_history_by : FnScope n_history_by ["text", "row"] (defScope s_history_by) := ⟨rfl, rfl, rfl, by decide +kernel, rfl, by decide +kernel, by decide +kernel⟩
theorem ok_history_by (T : Txt K mg) : Cl P w K mg base CX0 "history_by" ["text", "row"] 6 [] sp_history_by := by
  obtain ⟨fd, F⟩ := T.def_ 58 (d := d_history_by) rfl
  have C_checked_text := ok_checked_text (P := P) (w := w) (base := base) T
  have C_length_of := ok_length_of (P := P) (w := w) (base := base) T
  have C_blocks_with := ok_blocks_with (P := P) (w := w) (base := base) T
  have C_pieces_of_text := ok_pieces_of_text (P := P) (w := w) (base := base) T
  refine cl_ok F (T.glo 49) (fun _ _ _ _ _ _ us hl => match us, hl with | [_, _], _ => rfl) sc_history_by (fun vs H Q E h => ?_) (fun cdv A outer s H vs Q E hr h => ?_)
  · obtain ⟨a, b, U, E, r, rfl, _⟩ := h
    rfl
  · obtain ⟨a, b, U, E, r, rfl, ha, o, hb, hr', hE, k⟩ := h
    refine ⟨_, (pss_cons (ps_set (i := 2) sc_history_by.nd rfl (Or.inl rfl) (pe_cl C_checked_text (hr.mono (by decide)) (pa_cons (pv 0) pa_nil)))
      (pss_cons (ps_set (i := 3) sc_history_by.nd rfl (Or.inr rfl) (pe_op op_cat (pe_op op_cat (pe_lst (pa_cons (pe_cl C_length_of (hr.mono (by decide)) (pa_cons (pv 2) pa_nil)) pa_nil)) (pv 1)) (pe_lst (pa_cons pe_int pa_nil))))
      (pss_cons (ps_setLc (i := 5) (own := [("level", 4)]) (g := (gName 4)) (tt := tYes) rfl sc_history_by.nd rfl rfl (sw_true rfl rfl rfl (by decide +kernel)) (pi_range3 (by rfl) (T.free 91) (pa_cons (pe_callB (call_len_seqK K) (by rfl) (T.free 83) bt_len (pa_cons (pv 1) pa_nil)) (pa_cons (pe_un un_neg pe_int) (pa_cons (pe_un un_neg pe_int) pa_nil)))) (blkOk_by (N := n_history_by) (sc := defScope s_history_by) (by decide +kernel)) (fun _ _ _ _ _ => (pg_name (i := 4) sc_history_by.nd rfl (Or.inl rfl))) (fun _ _ _ _ _ => pts_nil) (fun _ _ _ _ _ => (pe_tup (pa_cons (pe_op oSub (pe_ix (ix_listK K) (pv 3) (pv 4) (fun _ _ => rfl)) (pe_ix (ix_listK K) (pv 3) (pe_op oAdd (pv 4) pe_int) (fun _ _ => rfl))) (pa_cons (pv 4) pa_nil)))))
      (pss_one (ps_ret (pe_cl C_blocks_with (hr.mono (by decide)) (pa_cons (pe_cl C_pieces_of_text (hr.mono (by decide)) (pa_cons (pv 2) pa_nil)) (pa_cons (pe_lc (own := [("one", 6)]) (g := (gName 6)) rfl sc_history_by.nd (pi_list (pv 5)) (blkOk_by (N := n_history_by) (sc := defScope s_history_by) (by decide +kernel)) (fun _ _ _ _ _ => (pg_name (i := 6) sc_history_by.nd rfl (Or.inl rfl))) (fun _ _ _ _ _ => (pts_one (pt_cmpR oGt (pe_ix (ix_tupK K) (pv 6) pe_int (fun _ _ => rfl)) pe_int (nomark _)))) (fun _ _ _ _ _ => (pv 6))) pa_nil)))))))), ?_⟩
    have hrun := o.run
    have hl := hr'.hl o.wu.ok
    obtain ⟨hc, _⟩ := hc_bwu o.wu hl
    have HBk : HB U E (bwu U (stk r E)) := ⟨hc, hE⟩
    have len := HBk.len o
    have hb : H b = some (.lst ((rowL r E).map vN)) := hb
    refine ⟨_, rfl, a, _, rfl, ha, o.rnok, by omega, fun H1 q s1 nq h1 => ?_⟩
    refine ⟨_, rfl, q, _, rfl, h1, o.rnok, by omega, fun H2 s2 => ?_⟩
    rw [o.tsz]
    have S12 := s1.trans s2
    refine ⟨z1, fun p1 np1 => ?_⟩
    have s3 : Same H2 (upd H2 p1 (.lst [vN (tot U)])) := Same.new np1
    refine ⟨_, rfl, p1, b, [vN (tot U)], _, rfl, rfl, upd_same, s3 _ _ (S12 _ _ hb), by rw [List.length_map, rowL_len]; exact sle (show 1 + E ≤ 1000000 by omega), fun p2 np2 => ?_⟩
    have s4 : Same (upd H2 p1 (.lst [vN (tot U)])) (upd (upd H2 p1 (.lst [vN (tot U)])) p2 (.lst ([vN (tot U)] ++ (rowL r E).map vN))) := Same.new np2
    refine ⟨z1, fun p3 np3 => ?_⟩
    have s5 : Same (upd (upd H2 p1 (.lst [vN (tot U)])) p2 (.lst ([vN (tot U)] ++ (rowL r E).map vN))) (upd (upd (upd H2 p1 (.lst [vN (tot U)])) p2 (.lst ([vN (tot U)] ++ (rowL r E).map vN))) p3 (.lst [.int 0])) := Same.new np3
    refine ⟨p2, p3, _, [.int 0], rfl, rfl, s5 _ _ upd_same, upd_same, by rw [List.length_append, List.length_map, rowL_len]; exact sle (show 1 + E + 1 ≤ 1000000 by omega), fun p4 np4 => ?_⟩
    have s6 : Same (upd (upd (upd H2 p1 (.lst [vN (tot U)])) p2 (.lst ([vN (tot U)] ++ (rowL r E).map vN))) p3 (.lst [.int 0])) (upd (upd (upd (upd H2 p1 (.lst [vN (tot U)])) p2 (.lst ([vN (tot U)] ++ (rowL r E).map vN))) p3 (.lst [.int 0])) p4 (.lst ([vN (tot U)] ++ (rowL r E).map vN ++ [.int 0]))) := Same.new np4
    have he : (upd (upd (upd (upd H2 p1 (.lst [vN (tot U)])) p2 (.lst ([vN (tot U)] ++ (rowL r E).map vN))) p3 (.lst [.int 0])) p4 (.lst ([vN (tot U)] ++ (rowL r E).map vN ++ [.int 0]))) p4 = some (.lst ([vN (tot U)] ++ (rowL r E).map vN ++ [.int 0])) := upd_same
    have S := ((S12.trans s3).trans s4).trans (s5.trans s6)
    have h1' := h1.same (s2.trans (s3.trans (s4.trans (s5.trans s6))))
    generalize upd (upd (upd (upd H2 p1 (.lst [vN (tot U)])) p2 (.lst ([vN (tot U)] ++ (rowL r E).map vN))) p3 (.lst [.int 0])) p4 (.lst ([vN (tot U)] ++ (rowL r E).map vN ++ [.int 0])) = H6 at he S h1' ⊢
    have ends : ∀ l, l ≤ E + 1 → ([vN (tot U)] ++ (rowL r E).map vN ++ [V.int 0])[l]? = some (vN (r l)) := fun l hl => by
      rcases Nat.eq_zero_or_pos l with e | e
      · subst e
        show some (vN (tot U)) = _
        rw [hr'.zero]
      · obtain ⟨m, rfl⟩ : ∃ m, l = m + 1 := ⟨l - 1, by omega⟩
        by_cases hm : m < E
        · rw [List.getElem?_append_left (by rw [List.length_append, List.length_map, rowL_len]; show m + 1 < 1 + E; omega), List.getElem?_append_right (by show 1 ≤ m + 1; omega)]
          show ((rowL r E).map vN)[m]? = _
          rw [List.getElem?_map]
          unfold rowL
          rw [List.getElem?_map, List.getElem?_range hm]
          rfl
        · have : m = E := by omega
          subst this
          rw [List.getElem?_append_right (by rw [List.length_append, List.length_map, rowL_len]; show 1 + m ≤ m + 1; omega), List.length_append, List.length_map, rowL_len]
          have e0 : m + 1 - ([vN (tot U)].length + m) = 0 := by show m + 1 - (1 + m) = 0; omega
          rw [e0, hr'.top]
          rfl
    refine ⟨_, rfl, b, _, rfl, .inl (SqL.h (S _ _ hb)), 1, rfl, 1, rfl, (((rowL r E).map vN).length : Int), -1, -1, E + 1, rfl, ?_, fun D nD => ?_⟩
    · have := RgC.neg (i := (((rowL r E).map vN).length : Int)) (j := -1) (by omega) (by rw [List.length_map, rowL_len]; omega) (by decide) (by decide)
      have e : ((((rowL r E).map vN).length : Int) - -1).toNat = E + 1 := by rw [List.length_map, rowL_len]; omega
      rw [e] at this
      exact this
    refine lcRc_rows (fun i => (enN (sdn r E))[i]?) (by omega) nD (fun i H7 hi s7 Qc Qn t => ?_) fun H7 s7 hD => ?_
    · have ei : (((rowL r E).map vN).length : Int) + (i : Nat) * -1 = ((E - i : Nat) : Int) := by rw [List.length_map, rowL_len]; omega
      have an := hr'.anti (E - i)
      have ef : (enN (sdn r E))[i]? = some [vN (r (E - i) - r (E - i + 1)), vN (E - i)] := by
        unfold enN
        rw [List.getElem?_map, sdn_get r E i (by omega)]; rfl
      unfold TurnR at t
      rw [ef] at t
      rw [ei]
      refine El.name ?_
      refine ⟨_, rfl, _, rfl, p4, _, _, _, rfl, rfl, SqL.h (s7 _ _ he), atI_nat (j := E - i) (ends _ (by omega)), _, rfl, _, rfl, E - i, 1, rfl, rfl, p4, _, _, _, rfl, rfl, SqL.h (s7 _ _ he), atI_nat (j := E - i + 1) (ends _ (by omega)), r (E - i), r (E - i + 1), rfl, rfl, an, _, rfl, z2, fun u nu => ?_⟩
      exact t _ _ (Same.new nu) ⟨u, rfl, upd_same⟩
    · have eD : (List.range (E + 1)).filterMap (fun i => (enN (sdn r E))[i]?) = enN (sdn r E) := by
        have := fm_some (enN (sdn r E))
        rw [enN_len, sdn_len] at this
        exact this
      rw [eD] at hD
      refine ⟨_, rfl, q, _, rfl, h1'.same s7, o.rnok, by rw [o.tsz]; exact tot300 o.tot, by omega, fun H8 p8 s8 np8 h8 => ?_⟩
      rw [o.prs] at h8
      have hD8 := hD.same s8
      obtain ⟨xs, hxs, hxl⟩ := hD8.lst
      rw [enN_len, sdn_len] at hxl
      refine ⟨_, rfl, D, rfl, ⟨_, SqL.h hxs⟩, fun D2 nD2 => lcL_rows (xs := xs) (fun i => (sdn r E)[i]?.bind fun x => if 0 < x.1 then some [vN x.1, vN x.2] else none) (by omega) nD2 (SqL.h hxs) (fun i x H9 hx s9 Qc Qn t => ?_) fun H9 s9 hD2 => ?_⟩
      · obtain ⟨rr, t0, e1, rfl, e3⟩ := (hD8.same s9).row (s9 _ _ hxs) hx
        obtain ⟨⟨n, lv⟩, e4, rfl⟩ := enN_get e1
        unfold TurnR at t
        rw [e4] at t
        refine ⟨rfl, ?_⟩
        refine ⟨_, rfl, t0, _, _, _, rfl, rfl, SqT.h e3, atI_nat (j := 0) rfl, n, 0, rfl, rfl, ?_⟩
        by_cases h0 : 0 < n
        · simp only [Option.bind_some, if_pos h0] at t
          exact ⟨true, decT h0, iteT ⟨_, rfl, t _ _ (Same.refl _) ⟨t0, rfl, e3⟩⟩⟩
        · simp only [Option.bind_some, if_neg h0] at t
          exact ⟨false, decF h0, iteF (t _ (Same.refl _))⟩
      · have e2 : (List.range xs.length).filterMap (fun i => (sdn r E)[i]?.bind fun x => if 0 < x.1 then some [vN x.1, vN x.2] else none) = enN ((sdn r E).filter fun x => decide (0 < x.1)) := by
          rw [hxl, ← sdn_len r E, fm_rows (rows := sdn r E) (k := fun x : Nat × Nat => if 0 < x.1 then some [vN x.1, vN x.2] else none) (fun i r h => by rw [h]; rfl)]
          unfold enN
          rw [← fm_filter, List.map_filterMap]
          congr 1
          funext x
          by_cases h0 : 0 < x.1
          · rw [if_pos h0, if_pos (decide_eq_true h0)]; rfl
          · rw [if_neg h0, if_neg (by simpa using h0)]; rfl
        rw [e2] at hD2
        have ex : stx ((sdn r E).filter fun x => decide (0 < x.1)) = stk r E := by rw [stx_filter, sdn_stx]
        refine ⟨p8, D2, pcs U, _, rfl, h8.same s9, hD2, o.pc, fun x hx => of_decide_eq_true (List.mem_filter.mp hx).2, ?_, ?_, ?_, fun H10 p10 s10 np10 h10 => ?_⟩
        · rw [ex, exR_pcs]
          exact ⟨hl.fit, hl.dn, fun x hx => Nat.le_trans (hl.le x hx) hE⟩
        · refine Nat.le_trans (List.length_filter_le _ _) ?_
          rw [sdn_len]; omega
        · rw [ex, exR_pcs]; omega
        · rw [ex, exR_pcs] at h10
          exact k H10 p10 (((S.trans s7).trans s8).trans (s9.trans s10)) (((S.trans s7).trans s8).trans s9 |>.free np10) h10
end
end Sl


end
section
set_option Elab.async false
set_option linter.all false
set_option maxRecDepth 100000
set_option maxHeartbeats 4000000
namespace Sl
open PySem PySem.Spec PyProof.Rows L2
abbrev FL (H : Hp) (b : Addr) (fs : List Fact) : Prop := LT H b (fs.map rowF)
theorem all_map {α : Type} (f : α → Bool) (l : List α) : (l.map f).all id = l.all f := by
  induction l with
  | nil => rfl
  | cons x r ih => rw [List.map_cons, List.all_cons, List.all_cons, ih]; rfl
theorem all_congr {α : Type} {f g : α → Bool} {l : List α} (h : ∀ x ∈ l, f x = g x) : l.all f = l.all g := by
  induction l with
  | nil => rfl
  | cons x r ih => rw [List.all_cons, List.all_cons, h x List.mem_cons_self, ih fun y hy => h y (List.mem_cons_of_mem _ hy)]
section
variable {P : Program} {w : World} {K : PySem.W.Frag} {mg : Str → Option Value} {base : Heap}
def sp_bounds_of (K : PySem.W.Frag) : Sp := fun vs H Q _ => ∃ (a b : Addr) (U : List Un) (M : Nat) (fs : List Fact), vs = [.ref a, vN M, .ref b] ∧ LT H a (enR (rnT U)) ∧ FL H b fs ∧ AQ U M fs ∧ ∀ H' y, Same H H' → BoV K H' y U M (bdFs U fs) → Q y H'
abbrev n_bounds_of : List Str := ["text", "escapes", "facts", "length", "fact"]
theorem sc_bounds_of : FnScope n_bounds_of ["text", "escapes", "facts"] (defScope s_bounds_of) := ⟨rfl, rfl, rfl, by decide +kernel, rfl, by decide +kernel, by decide +kernel⟩
theorem ok_bounds_of (T : Txt K mg) : Cl P w K mg base CX0 "bounds_of" ["text", "escapes", "facts"] 10 [] (sp_bounds_of K) := by
  obtain ⟨fd, F⟩ := T.def_ 70 (d := d_bounds_of) rfl
  have C_length_of := ok_length_of (P := P) (w := w) (base := base) T
  have C_check_escapes := ok_check_escapes (P := P) (w := w) (base := base) T
  have C_is_fact := ok_is_fact (P := P) (w := w) (base := base) T
  have K_Bounds := ok_Bounds_init (P := P) (w := w) (base := base) T
  refine cl_ok F (T.glo 53) (fun _ _ _ _ _ _ us hl => match us, hl with | [_, _, _], _ => rfl) sc_bounds_of (fun vs H Q E h => ?_) (fun cdv A outer s H vs Q E hr h => ?_)
  · obtain ⟨a, b, U, M, fs, rfl, _⟩ := h
    rfl
  · obtain ⟨a, b, U, M, fs, rfl, ha, hb, q, k⟩ := h
    refine ⟨_, (pss_cons (ps_set (i := 3) sc_bounds_of.nd rfl (Or.inr rfl) (pe_cl C_length_of (hr.mono (by decide)) (pa_cons (pv 0) pa_nil)))
      (pss_cons (ps_expr (pe_cl C_check_escapes (hr.mono (by decide)) (pa_cons (pv 1) pa_nil)))
      (pss_cons (ps_if (PW.pt (pw_or (pt_not (pt_val (pe_callB (call_isiTK K) (by rfl) (T.free 84) bt_isinstance (pa_cons (pv 2) (pa_cons (pe_tup (pa_cons (pe_ty (T.free 88) bt_list) (pa_cons (pe_ty (T.free 89) bt_tuple) pa_nil))) pa_nil))))) (pw_or1 (pt_cmpR oGt (pe_callB (call_len_seqK K) (by rfl) (T.free 83) bt_len (pa_cons (pv 2) pa_nil)) (pe_gi (T.int 103)) (nomark _)))))
        (pss_one ps_never)
        pss_nil)
      (pss_cons (ps_if (pt_not (pt_val (pe_callB (cr_allK K rfl) (by rfl) (T.free 81) bt_all (pa_cons (pe_lc (own := [("fact", 4)]) (g := (gName 4)) (tt := tYes) rfl sc_bounds_of.nd (pi_list (pv 2)) (blkOk_by (N := n_bounds_of) (sc := defScope s_bounds_of) (by decide +kernel)) (fun _ _ _ _ _ => (pg_name (i := 4) sc_bounds_of.nd rfl (Or.inl rfl))) (fun _ _ _ _ _ => pts_nil) (fun _ _ _ _ _ => (pe_cl C_is_fact (hr.mono (by decide)) (pa_cons (pv 4) (pa_cons (pv 3) pa_nil))))) pa_nil))))
        (pss_one ps_never)
        pss_nil)
      (pss_one (ps_ret (pe_clk K_Bounds (hr.mono (by decide)) (pa_cons (pv 0) (pa_cons (pv 1) (pa_cons (pv 2) pa_nil)))))))))), ?_⟩
    have hrun := q.o.run
    have hn := q.n
    refine ⟨_, rfl, a, _, rfl, ha, q.o.rnok, by omega, fun H1 s1 => ?_⟩
    rw [q.o.tsz]
    refine ⟨_, rfl, M, rfl, q.e, ?_⟩
    have hb1 := hb.same s1
    obtain ⟨xs, hxs, hxl⟩ := hb1.lst
    rw [List.length_map] at hxl
    refine ⟨_, rfl, z2, fun p np => ?_⟩
    have s2 : Same H1 (upd H1 p (.tup [.ty "list", .ty "tuple"])) := Same.new np
    have hxs2 := s2 _ _ hxs
    have hb2 := hb1.same s2
    refine ⟨_, p, _, _, _, true, rfl, upd_same, .cons (.ty _) (.cons (.ty _) .nil), .base (.lst hxs2), ka_l, true, rfl, iteF ?_⟩
    refine ⟨_, rfl, b, xs, rfl, .inl (SqL.h hxs2), xs.length, 400, rfl, rfl, false, decF (by omega), iteF ?_⟩
    refine ⟨_, rfl, b, rfl, ⟨_, SqL.h hxs2⟩, fun D nD => lcL_flat (xs := xs) (fun _ => some (.bl true)) (by omega) nD (SqL.h hxs2) (fun i x H3 hx s3 Qc Qn t => ?_) fun H3 s3 hD => ?_⟩
    · obtain ⟨r, t0, e1, rfl, e3⟩ := (hb2.same s3).row (s3 _ _ hxs2) hx
      obtain ⟨f, e4, rfl⟩ : ∃ f, fs[i]? = some f ∧ r = rowF f := by
        rw [List.getElem?_map] at e1
        cases e : fs[i]? with
        | none => rw [e] at e1; cases e1
        | some f => rw [e] at e1; exact ⟨f, rfl, (Option.some.inj e1).symm⟩
      refine El.name ?_
      exact ⟨_, rfl, _, rfl, t0, f, U, rfl, e3, q.f f (List.mem_of_getElem? e4), fun H4 s4 => t H4 s4⟩
    · refine ⟨D, List.replicate xs.length true, rfl, by rw [← fm_true]; exact SqL.h hD, true, congrArg V.bl (all_true _), iteF ?_⟩
      have S := (s1.trans s2).trans s3
      refine ⟨_, rfl, _, rfl, _, rfl, fun x dx nx nd ne => ?_⟩
      have s4 : Same H3 (upd (upd H3 dx (.own x)) x (.ins (gaB K) dx [])) := Same.mut (Same.new nd) nx
      refine ⟨x, dx, a, b, U, M, fs, rfl, upd_same, (ha.same S).same s4, q.o, (hb2.same s3).same s4, q.f, by omega, fun H5 m5 hy => ⟨rfl, k H5 _ (S.trans (m5.same s4 nx)) hy⟩⟩
def sp_satisfies : Sp := fun vs H Q _ => ∃ (a b h : Addr) (U : List Un) (M : Nat) (fs : List Fact) (cs : List Ch), vs = [.ref a, vN M, .ref b, .ref h] ∧ LT H a (enR (rnT U)) ∧ FL H b fs ∧ LT H h (enB (rn yes cs)) ∧ AQ U M fs ∧ HB U M cs ∧ ∀ H', Same H H' → Q (.bl ((bdFs U fs).all (sat (lvs cs)))) H'
abbrev n_satisfies : List Str := ["text", "escapes", "facts", "history", "bounds", "row", "bound"]
theorem sc_satisfies : FnScope n_satisfies ["text", "escapes", "facts", "history"] (defScope s_satisfies) := ⟨rfl, rfl, rfl, by decide +kernel, rfl, by decide +kernel, by decide +kernel⟩
theorem ok_satisfies (T : Txt K mg) : Cl P w K mg base CX0 "satisfies" ["text", "escapes", "facts", "history"] 11 [] sp_satisfies := by
  obtain ⟨fd, F⟩ := T.def_ 72 (d := d_satisfies) rfl
  have C_bounds_of := ok_bounds_of (P := P) (w := w) (base := base) T
  have C_row_of := ok_row_of (P := P) (w := w) (base := base) T
  have C_checked_history := ok_checked_history (P := P) (w := w) (base := base) T
  have C_checked_text := ok_checked_text (P := P) (w := w) (base := base) T
  have C_holds := ok_holds (P := P) (w := w) (base := base) T
  refine cl_ok F (T.glo 55) (fun _ _ _ _ _ _ us hl => match us, hl with | [_, _, _, _], _ => rfl) sc_satisfies (fun vs H Q E h => ?_) (fun cdv A outer s H vs Q E hr h => ?_)
  · obtain ⟨a, b, h, U, M, fs, cs, rfl, _⟩ := h
    rfl
  · obtain ⟨a, b, hh, U, M, fs, cs, rfl, ha, hb, hc, q, hB, k⟩ := h
    refine ⟨_, (pss_cons (ps_set (i := 4) sc_satisfies.nd rfl (Or.inl rfl) (pe_cl C_bounds_of (hr.mono (by decide)) (pa_cons (pv 0) (pa_cons (pv 1) (pa_cons (pv 2) pa_nil)))))
      (pss_cons (ps_set (i := 5) sc_satisfies.nd rfl (Or.inr rfl) (pe_cl C_row_of (hr.mono (by decide)) (pa_cons (pe_cl C_checked_history (hr.mono (by decide)) (pa_cons (pe_cl C_checked_text (hr.mono (by decide)) (pa_cons (pv 0) pa_nil)) (pa_cons (pv 1) (pa_cons (pv 3) pa_nil)))) (pa_cons (pv 1) pa_nil))))
      (pss_one (ps_ret (pe_callB (cr_allK K rfl) (by rfl) (T.free 81) bt_all (pa_cons (pe_lc (own := [("bound", 6)]) (g := (gName 6)) (tt := tYes) rfl sc_satisfies.nd (pi_list (pe_fldK K (pv 4))) (blkOk_by (N := n_satisfies) (sc := defScope s_satisfies) (by decide +kernel)) (fun _ _ _ _ _ => (pg_name (i := 6) sc_satisfies.nd rfl (Or.inl rfl))) (fun _ _ _ _ _ => pts_nil) (fun _ _ _ _ _ => (pe_cl C_holds (hr.mono (by decide)) (pa_cons (pv 6) (pa_cons (pv 5) pa_nil))))) pa_nil)))))), ?_⟩
    have hrun := q.o.run
    refine ⟨_, rfl, _, rfl, _, rfl, a, b, U, M, fs, rfl, ha, hb, q, fun H1 y s1 hy => ?_⟩
    refine ⟨_, rfl, a, _, rfl, ha.same s1, q.o.rnok, by omega, fun H2 p s2 np hp => ?_⟩
    refine ⟨_, rfl, _, rfl, p, hh, U, M, cs, rfl, hp, hc.same (s1.trans s2), q.o, hB, fun H3 p3 s3 np3 hp3 => ?_⟩
    refine ⟨_, rfl, p3, _, M, rfl, hp3, hB.bs q.o, q.e, fun H4 rr s4 nr hr => ?_⟩
    rw [HB.ex] at hr
    have S24 := (s2.trans s3).trans s4
    have hy4 := hy.same S24
    obtain ⟨ya, dx, gs, px, bl, rfl, hya, hf, hpl, hl⟩ := hy4
    obtain ⟨xs, hxs, hxl⟩ := hl.lst
    have hlen := q.len
    refine ⟨_, rfl, ya, gaB K, dx, gs, _, rfl, hya, clB T, naB T, hf.c, bl, rfl, ⟨_, SqL.h hxs⟩, fun D nD => lcL_flat (xs := xs) (fun i => (bdFs U fs)[i]?.map fun b => .bl (satR (rowL (fun l => cnt l (lvs cs)) M) b)) (by omega) nD (SqL.h hxs) (fun i x H5 hx s5 Qc Qn t => ?_) fun H5 s5 hD => ?_⟩
    · obtain ⟨b0, e1, e2⟩ := (hl.same stabBd s5).row (s5 _ _ hxs) hx
      unfold TurnF at t
      rw [e1] at t
      refine El.name ?_
      exact ⟨_, rfl, _, rfl, x, b0, rr, _, rfl, e2, hr.same s5, by rw [rowL_len]; have := q.e; omega, fun H6 s6 => t H6 s6⟩
    · have e : (List.range xs.length).filterMap (fun i => (bdFs U fs)[i]?.map fun b => V.bl (satR (rowL (fun l => cnt l (lvs cs)) M) b)) = ((bdFs U fs).map (satR (rowL (fun l => cnt l (lvs cs)) M))).map V.bl := by
        rw [hxl, fm_rows (rows := bdFs U fs) (k := fun b => some (V.bl (satR (rowL (fun l => cnt l (lvs cs)) M) b))) (fun i r h => by rw [h]; rfl), List.map_map]
        exact congrFun List.filterMap_eq_map (bdFs U fs)
      rw [e] at hD
      refine ⟨D, _, rfl, SqL.h hD, ?_⟩
      rw [all_map, all_congr (g := sat (lvs cs)) fun b hb => satR_sat fun lo p kk e => cs_lev hB (by have := q.bk b hb; rw [e] at this; exact this.1)]
      exact k _ ((s1.trans S24).trans s5)
def sp_contradiction : Sp := fun vs H Q _ => ∃ (a b : Addr) (U : List Un) (M : Nat) (fs : List Fact), vs = [.ref a, vN M, .ref b] ∧ LT H a (enR (rnT U)) ∧ FL H b fs ∧ AQ U M fs ∧ ctQ H Q (ctr U M (bdFs U fs))
abbrev n_contradiction : List Str := ["text", "escapes", "facts"]
theorem sc_contradiction : FnScope n_contradiction ["text", "escapes", "facts"] (defScope s_contradiction) := ⟨rfl, rfl, rfl, by decide +kernel, rfl, by decide +kernel, by decide +kernel⟩
theorem ok_contradiction (T : Txt K mg) : Cl P w K mg base CX0 "contradiction" ["text", "escapes", "facts"] 11 [] sp_contradiction := by
  obtain ⟨fd, F⟩ := T.def_ 73 (d := d_contradiction) rfl
  have C_contradicting := ok_Bounds_contradicting (P := P) (w := w) (base := base) T
  have C_bounds_of := ok_bounds_of (P := P) (w := w) (base := base) T
  refine cl_ok F (T.glo 56) (fun _ _ _ _ _ _ us hl => match us, hl with | [_, _, _], _ => rfl) sc_contradiction (fun vs H Q E h => ?_) (fun cdv A outer s H vs Q E hr h => ?_)
  · obtain ⟨a, b, U, M, fs, rfl, _⟩ := h
    rfl
  · obtain ⟨a, b, U, M, fs, rfl, ha, hb, q, k⟩ := h
    refine ⟨_, (pss_one (ps_ret (pe_clm0K K C_contradicting (hr.mono (by decide)) (pe_cl C_bounds_of (hr.mono (by decide)) (pa_cons (pv 0) (pa_cons (pv 1) (pa_cons (pv 2) pa_nil))))))), ?_⟩
    refine ⟨_, rfl, _, rfl, _, rfl, a, b, U, M, fs, rfl, ha, hb, q, fun H1 y s1 hy => ?_⟩
    have hy0 := hy
    obtain ⟨ya, dx, gs, px, bl, rfl, hya, hf, hpl, hl⟩ := hy0
    refine ⟨ya, dx, gs, rfl, hya, hf.m3, .ref ya, U, M, _, rfl, hy, q.o, q.bk, q.len, ?_⟩
    cases e : ctr U M (bdFs U fs) with
    | none =>
      rw [e] at k
      intro H2 s2
      exact k H2 (s1.trans s2)
    | some r =>
      rw [e] at k
      intro H2 t s2 ht
      exact k H2 t (s1.trans s2) ht
def sp_greatest_with (K : PySem.W.Frag) : Sp := fun vs H Q E => ∃ (a b : Addr) (U : List Un) (M : Nat) (fs : List Fact), vs = [.ref a, vN M, .ref b] ∧ LT H a (enR (rnT U)) ∧ FL H b fs ∧ AQ U M fs ∧ match ctr U M (bdFs U fs) with
  | none => ∀ H' p, Same H H' → H p = none → LT H' p (enB (rn yes (bwu U (upLs U M (bdFs U fs))))) → Q (.ref p) H'
  | some r => ∀ H' d t, Same H H' → H' d = some (.xd [(sInd, .ref t)]) → H' t = some (.tup (r.map vN)) → E (.ref (gaC K)) (some d) H'
abbrev n_greatest_with : List Str := ["text", "escapes", "facts", "bounds"]
theorem sc_greatest_with : FnScope n_greatest_with ["text", "escapes", "facts"] (defScope s_greatest_with) := ⟨rfl, rfl, rfl, by decide +kernel, rfl, by decide +kernel, by decide +kernel⟩
theorem ok_greatest_with (T : Txt K mg) : Cl P w K mg base (L2.CX P w) "greatest_with" ["text", "escapes", "facts"] 11 [] (sp_greatest_with K) := by
  obtain ⟨fd, F⟩ := T.def_ 74 (d := d_greatest_with) rfl
  have C_bounds_of := ok_bounds_of (P := P) (w := w) (base := base) T
  have C_check := ok_Bounds_check (P := P) (w := w) (base := base) T
  have C_history_by := ok_history_by (P := P) (w := w) (base := base) T
  have C_greatest_row := ok_Bounds_greatest_row (P := P) (w := w) (base := base) T
  refine cl_okX F (T.glo 57) (fun _ _ _ _ _ _ us hl => match us, hl with | [_, _, _], _ => rfl) sc_greatest_with (fun vs H Q E h => ?_) (fun cdv A outer s H vs Q E hr h => ?_)
  · obtain ⟨a, b, U, M, fs, rfl, _⟩ := h
    rfl
  · obtain ⟨a, b, U, M, fs, rfl, ha, hb, q, k⟩ := h
    refine ⟨_, (pss_cons (ps_set (i := 3) sc_greatest_with.nd rfl (Or.inl rfl) (pe_cl C_bounds_of (hr.mono (by decide)) (pa_cons (pv 0) (pa_cons (pv 1) (pa_cons (pv 2) pa_nil)))))
      (pss_cons (ps_expr (pe_clm0E K C_check (hr.mono (by decide)) (pv 3) (takes_of rfl rfl rfl rfl) (fun _ _ _ _ h => h)))
      (pss_one (ps_ret (pe_cl C_history_by (hr.mono (by decide)) (pa_cons (pv 0) (pa_cons (pe_clm0K K C_greatest_row (hr.mono (by decide)) (pv 3)) pa_nil))))))), ?_⟩
    refine ⟨_, rfl, _, rfl, _, rfl, a, b, U, M, fs, rfl, ha, hb, q, fun H1 y s1 hy => ?_⟩
    have hy0 := hy
    obtain ⟨ya, dx, gs, px, bl, rfl, hya, hf, hpl, hl⟩ := hy0
    refine ⟨_, rfl, ya, dx, gs, rfl, hya, hf.m4, .ref ya, U, M, _, rfl, hy, q.o, q.bk, q.len, ?_⟩
    cases e : ctr U M (bdFs U fs) with
    | none =>
      rw [e] at k
      intro H2 s2
      refine ⟨_, rfl, _, rfl, ya, dx, gs, rfl, s2 _ _ hya, hf.m6, .ref ya, U, M, _, rfl, hy.same s2, q.o, q.bk, q.len, q.e, fun H3 rr s3 nr hr => ?_⟩
      rw [up_row] at hr
      exact ⟨a, rr, U, M, _, rfl, ha.same ((s1.trans s2).trans s3), q.o, hr, up_rw q.uok _, q.e, fun H4 p s4 np h4 => k H4 p (((s1.trans s2).trans s3).trans s4) (((s1.trans s2).trans s3).free np) h4⟩
    | some r =>
      rw [e] at k
      intro H2 d t s2 hd ht
      exact k H2 d t (s1.trans s2) hd ht
def sp_least_with : Sp := fun vs H Q _ => ∃ (a b : Addr) (U : List Un) (M : Nat) (fs : List Fact), vs = [.ref a, vN M, .ref b] ∧ LT H a (enR (rnT U)) ∧ FL H b fs ∧ AQ U M fs ∧ ctr U M (bdFs U fs) = none ∧ ∀ H' p, Same H H' → H p = none → LT H' p (enB (rn yes (bwu U (lowLs U M (bdFs U fs))))) → Q (.ref p) H'
abbrev n_least_with : List Str := ["text", "escapes", "facts", "bounds"]
theorem sc_least_with : FnScope n_least_with ["text", "escapes", "facts"] (defScope s_least_with) := ⟨rfl, rfl, rfl, by decide +kernel, rfl, by decide +kernel, by decide +kernel⟩
theorem ok_least_with (T : Txt K mg) : Cl P w K mg base CX0 "least_with" ["text", "escapes", "facts"] 11 [] sp_least_with := by
  obtain ⟨fd, F⟩ := T.def_ 75 (d := d_least_with) rfl
  have C_bounds_of := ok_bounds_of (P := P) (w := w) (base := base) T
  have C_check := ok_Bounds_check (P := P) (w := w) (base := base) T
  have C_history_by := ok_history_by (P := P) (w := w) (base := base) T
  have C_least_row := ok_Bounds_least_row (P := P) (w := w) (base := base) T
  refine cl_ok F (T.glo 58) (fun _ _ _ _ _ _ us hl => match us, hl with | [_, _, _], _ => rfl) sc_least_with (fun vs H Q E h => ?_) (fun cdv A outer s H vs Q E hr h => ?_)
  · obtain ⟨a, b, U, M, fs, rfl, _⟩ := h
    rfl
  · obtain ⟨a, b, U, M, fs, rfl, ha, hb, q, e, k⟩ := h
    refine ⟨_, (pss_cons (ps_set (i := 3) sc_least_with.nd rfl (Or.inl rfl) (pe_cl C_bounds_of (hr.mono (by decide)) (pa_cons (pv 0) (pa_cons (pv 1) (pa_cons (pv 2) pa_nil)))))
      (pss_cons (ps_expr (pe_clm0X K C_check (hr.mono (by decide)) (pv 3)))
      (pss_one (ps_ret (pe_cl C_history_by (hr.mono (by decide)) (pa_cons (pv 0) (pa_cons (pe_clm0K K C_least_row (hr.mono (by decide)) (pv 3)) pa_nil))))))), ?_⟩
    have c := (ctr_none q.bd).mp e
    refine ⟨_, rfl, _, rfl, _, rfl, a, b, U, M, fs, rfl, ha, hb, q, fun H1 y s1 hy => ?_⟩
    have hy0 := hy
    obtain ⟨ya, dx, gs, px, bl, rfl, hya, hf, hpl, hl⟩ := hy0
    refine ⟨_, rfl, ya, dx, gs, rfl, hya, hf.m4, .ref ya, U, M, _, rfl, hy, q.o, q.bk, q.len, ?_⟩
    rw [e]
    intro H2 s2
    refine ⟨_, rfl, _, rfl, ya, dx, gs, rfl, s2 _ _ hya, hf.m5, .ref ya, U, M, _, rfl, hy.same s2, q.o, q.bk, q.len, q.e, fun H3 rr s3 nr hr => ?_⟩
    rw [low_row] at hr
    exact ⟨a, rr, U, M, _, rfl, ha.same ((s1.trans s2).trans s3), q.o, hr, c.low q.uok, q.e, fun H4 p s4 np h4 => k H4 p (((s1.trans s2).trans s3).trans s4) (((s1.trans s2).trans s3).free np) h4⟩
def sp_level_range : Sp := fun vs H Q _ => ∃ (a b : Addr) (U : List Un) (M : Nat) (fs : List Fact) (p : Nat), vs = [.ref a, vN M, .ref b, vN p] ∧ LT H a (enR (rnT U)) ∧ FL H b fs ∧ AQ U M fs ∧ p < tot U ∧ ctr U M (bdFs U fs) = none ∧ ∀ H' t, Same H H' → H' t = some (.tup [vN (lev (lowLs U M (bdFs U fs)) p), vN (lev (upLs U M (bdFs U fs)) p)]) → Q (.ref t) H'
abbrev n_level_range : List Str := ["text", "escapes", "facts", "position", "bounds"]
theorem sc_level_range : FnScope n_level_range ["text", "escapes", "facts", "position"] (defScope s_level_range) := ⟨rfl, rfl, rfl, by decide +kernel, rfl, by decide +kernel, by decide +kernel⟩
theorem ok_level_range (T : Txt K mg) : Cl P w K mg base CX0 "level_range" ["text", "escapes", "facts", "position"] 11 [] sp_level_range := by
  obtain ⟨fd, F⟩ := T.def_ 76 (d := d_level_range) rfl
  have C_bounds_of := ok_bounds_of (P := P) (w := w) (base := base) T
  have C_is_integer3 := ok_is_integer3 (P := P) (w := w) (base := base) T
  have C_check := ok_Bounds_check (P := P) (w := w) (base := base) T
  have C_level_in := ok_level_in (P := P) (w := w) (base := base) T
  have C_greatest_row := ok_Bounds_greatest_row (P := P) (w := w) (base := base) T
  have C_least_row := ok_Bounds_least_row (P := P) (w := w) (base := base) T
  refine cl_ok F (T.glo 59) (fun _ _ _ _ _ _ us hl => match us, hl with | [_, _, _, _], _ => rfl) sc_level_range (fun vs H Q E h => ?_) (fun cdv A outer s H vs Q E hr h => ?_)
  · obtain ⟨a, b, U, M, fs, p, rfl, _⟩ := h
    rfl
  · obtain ⟨a, b, U, M, fs, p, rfl, ha, hb, q, hp, e, k⟩ := h
    refine ⟨_, (pss_cons (ps_set (i := 4) sc_level_range.nd rfl (Or.inl rfl) (pe_cl C_bounds_of (hr.mono (by decide)) (pa_cons (pv 0) (pa_cons (pv 1) (pa_cons (pv 2) pa_nil)))))
      (pss_cons (ps_if (pt_not (pt_val (pe_cl C_is_integer3 (hr.mono (by decide)) (pa_cons (pv 3) (pa_cons pe_int (pa_cons (pe_op oSub (pe_fldK K (pe_fldK K (pv 4))) pe_int) pa_nil))))))
        (pss_one ps_never)
        pss_nil)
      (pss_cons (ps_expr (pe_clm0X K C_check (hr.mono (by decide)) (pv 4)))
      (pss_one (ps_ret (pe_tup (pa_cons (pe_cl C_level_in (hr.mono (by decide)) (pa_cons (pe_clm0K K C_least_row (hr.mono (by decide)) (pv 4)) (pa_cons (pv 3) pa_nil))) (pa_cons (pe_cl C_level_in (hr.mono (by decide)) (pa_cons (pe_clm0K K C_greatest_row (hr.mono (by decide)) (pv 4)) (pa_cons (pv 3) pa_nil))) pa_nil)))))))), ?_⟩
    have c := (ctr_none q.bd).mp e
    refine ⟨_, rfl, _, rfl, _, rfl, a, b, U, M, fs, rfl, ha, hb, q, fun H1 y s1 hy => ?_⟩
    have hy0 := hy
    obtain ⟨ya, dx, gs, px, bl, rfl, hya, hf, hpl, hl⟩ := hy0
    have hpl0 := hpl
    obtain ⟨pa, pdx, pfs, pg, rfl, hpa, hpf, _⟩ := hpl0
    have ib : inB p 0 (some (tot U - 1)) = true := by
      show (decide (0 ≤ p) && decide (p ≤ tot U - 1)) = true
      rw [decide_eq_true (Nat.zero_le p), decide_eq_true (show p ≤ tot U - 1 by omega)]; rfl
    refine ⟨_, rfl, _, rfl, ya, gaB K, dx, gs, _, rfl, hya, clB T, naP T, hf.a, pa, gaL K, pdx, pfs, _, rfl, hpa, meL T, He.noat_ok (T.fact 118 (f := .noat "Places" "length") rfl), hpf.a, tot U, 1, rfl, rfl, by omega, p, 0, some (tot U - 1), rfl, true, congrArg V.bl ib, iteF ?_⟩
    refine ⟨_, rfl, ya, dx, gs, rfl, hya, hf.m4, .ref ya, U, M, _, rfl, hy, q.o, q.bk, q.len, ?_⟩
    rw [e]
    intro H2 s2
    refine ⟨_, rfl, ya, dx, gs, rfl, s2 _ _ hya, hf.m5, .ref ya, U, M, _, rfl, hy.same s2, q.o, q.bk, q.len, q.e, fun H3 rr s3 nr hr => ?_⟩
    have he := q.e
    refine ⟨_, rfl, rr, _, p, rfl, hr, by rw [rowL_len]; omega, fun H4 s4 => ?_⟩
    have S24 := (s2.trans s3).trans s4
    refine ⟨_, rfl, ya, dx, gs, rfl, S24 _ _ hya, hf.m6, .ref ya, U, M, _, rfl, hy.same S24, q.o, q.bk, q.len, q.e, fun H5 r2 s5 nr2 hr2 => ?_⟩
    refine ⟨_, rfl, r2, _, p, rfl, hr2, by rw [rowL_len]; omega, fun H6 s6 => ⟨z2, fun t nt => ?_⟩⟩
    rw [low_lev' q.uok c hp, up_lev' q.uok hp]
    exact k _ t ((((s1.trans S24).trans s5).trans s6).trans (Same.new nt)) upd_same
noncomputable def impR (U : List Un) (M : Nat) (bs : List Bd) (b : Bd) : Bool := (ctr U M bs).isSome || imp U M bs b
def sp_implied_by : Sp := fun vs H Q _ => ∃ (a b t : Addr) (U : List Un) (M : Nat) (fs : List Fact) (f : Fact), vs = [.ref a, vN M, .ref b, .ref t] ∧ LT H a (enR (rnT U)) ∧ FL H b fs ∧ AQ U M fs ∧ H t = some (.tup (rowF f)) ∧ FOk U f ∧ ∀ H', Same H H' → Q (.bl (impR U M (bdFs U fs) (bdF U f))) H'
abbrev n_implied_by : List Str := ["text", "escapes", "facts", "fact", "bounds", "bound"]
theorem sc_implied_by : FnScope n_implied_by ["text", "escapes", "facts", "fact"] (defScope s_implied_by) := ⟨rfl, rfl, rfl, by decide +kernel, rfl, by decide +kernel, by decide +kernel⟩
theorem ok_implied_by (T : Txt K mg) : Cl P w K mg base CX0 "implied_by" ["text", "escapes", "facts", "fact"] 11 [] sp_implied_by := by
  obtain ⟨fd, F⟩ := T.def_ 77 (d := d_implied_by) rfl
  have C_bounds_of := ok_bounds_of (P := P) (w := w) (base := base) T
  have C_is_fact := ok_is_fact (P := P) (w := w) (base := base) T
  have C_contradicting := ok_Bounds_contradicting (P := P) (w := w) (base := base) T
  have C_bound_of := ok_bound_of (P := P) (w := w) (base := base) T
  have C_holds := ok_holds (P := P) (w := w) (base := base) T
  have C_greatest_row := ok_Bounds_greatest_row (P := P) (w := w) (base := base) T
  have C_least_row := ok_Bounds_least_row (P := P) (w := w) (base := base) T
  refine cl_ok F (T.glo 60) (fun _ _ _ _ _ _ us hl => match us, hl with | [_, _, _, _], _ => rfl) sc_implied_by (fun vs H Q E h => ?_) (fun cdv A outer s H vs Q E hr h => ?_)
  · obtain ⟨a, b, t, U, M, fs, f, rfl, _⟩ := h
    rfl
  · obtain ⟨a, b, t, U, M, fs, f, rfl, ha, hb, q, ht, hfo, k⟩ := h
    refine ⟨_, (pss_cons (ps_set (i := 4) sc_implied_by.nd rfl (Or.inl rfl) (pe_cl C_bounds_of (hr.mono (by decide)) (pa_cons (pv 0) (pa_cons (pv 1) (pa_cons (pv 2) pa_nil)))))
      (pss_cons (ps_if (pt_not (pt_val (pe_cl C_is_fact (hr.mono (by decide)) (pa_cons (pv 3) (pa_cons (pe_fldK K (pe_fldK K (pv 4))) pa_nil)))))
        (pss_one ps_never)
        pss_nil)
      (pss_cons (ps_if (pt_cmpR op_notN (pe_clm0K K C_contradicting (hr.mono (by decide)) (pv 4)) pe_non (nomark _))
        (pss_one (ps_ret pe_bl))
        pss_nil)
      (pss_cons (ps_set (i := 5) sc_implied_by.nd rfl (Or.inl rfl) (pe_cl C_bound_of (hr.mono (by decide)) (pa_cons (pe_fldK K (pv 4)) (pa_cons (pv 3) pa_nil))))
      (pss_one (ps_ret (pe_and (pe_cl C_holds (hr.mono (by decide)) (pa_cons (pv 5) (pa_cons (pe_clm0K K C_least_row (hr.mono (by decide)) (pv 4)) pa_nil))) (pe_one (pe_cl C_holds (hr.mono (by decide)) (pa_cons (pv 5) (pa_cons (pe_clm0K K C_greatest_row (hr.mono (by decide)) (pv 4)) pa_nil))))))))))), ?_⟩
    refine ⟨_, rfl, _, rfl, _, rfl, a, b, U, M, fs, rfl, ha, hb, q, fun H1 y s1 hy => ?_⟩
    have hy0 := hy
    obtain ⟨ya, dx, gs, px, bl, rfl, hya, hf, hpl, hl⟩ := hy0
    have hpl0 := hpl
    obtain ⟨pa, pdx, pfs, pg, rfl, hpa, hpf, _⟩ := hpl0
    refine ⟨_, rfl, _, rfl, ya, gaB K, dx, gs, _, rfl, hya, clB T, naP T, hf.a, pa, gaL K, pdx, pfs, _, rfl, hpa, meL T, He.noat_ok (T.fact 118 (f := .noat "Places" "length") rfl), hpf.a, t, f, U, rfl, s1 _ _ ht, hfo, fun H2 s2 => ⟨true, rfl, iteF ?_⟩⟩
    refine ⟨_, rfl, ya, dx, gs, rfl, s2 _ _ hya, hf.m3, .ref ya, U, M, _, rfl, hy.same s2, q.o, q.bk, q.len, ?_⟩
    unfold impR at k
    cases e : ctr U M (bdFs U fs) with
    | some r =>
      rw [e] at k
      intro H3 u s3 hu
      refine ⟨rfl, true, rfl, iteT ?_⟩
      exact k _ ((s1.trans s2).trans s3)
    | none =>
      rw [e] at k
      have c := (ctr_none q.bd).mp e
      intro H3 s3
      refine ⟨rfl, false, rfl, iteF ?_⟩
      have S3 := (s1.trans s2).trans s3
      have s23 := s2.trans s3
      refine ⟨_, rfl, ya, gaB K, dx, gs, _, rfl, s23 _ _ hya, clB T, naP T, hf.a, _, rfl, .ref pa, t, f, U, rfl, hpl.same s23, q.o, S3 _ _ ht, hfo, fun H4 v s4 hv => ?_⟩
      have s24 := s23.trans s4
      have he := q.e
      refine ⟨_, rfl, _, rfl, ya, dx, gs, rfl, s24 _ _ hya, hf.m5, .ref ya, U, M, _, rfl, hy.same s24, q.o, q.bk, q.len, q.e, fun H5 rr s5 nr hr => ?_⟩
      refine ⟨v, bdF U f, rr, _, rfl, stabBd.same s5 hv, hr, by rw [rowL_len]; omega, fun H6 s6 => ⟨_, rfl, ?_⟩⟩
      have bok := bdF_ok q.o.tot hfo
      have e1 : satR (rowL (lowR U (bdFs U fs)) M) (bdF U f) = sat (lowLs U M (bdFs U fs)) (bdF U f) := satR_sat fun lo p kk e => low_lev' q.uok c (by rw [e] at bok; exact bok.1)
      have e2 : satR (rowL (upR U (bdFs U fs)) M) (bdF U f) = sat (upLs U M (bdFs U fs)) (bdF U f) := satR_sat fun lo p kk e => up_lev' q.uok (by rw [e] at bok; exact bok.1)
      have k' : ∀ H', Same H H' → Q (.bl (sat (lowLs U M (bdFs U fs)) (bdF U f) && sat (upLs U M (bdFs U fs)) (bdF U f))) H' := k
      rw [e1]
      cases h1 : sat (lowLs U M (bdFs U fs)) (bdF U f) with
      | false =>
        rw [h1] at k'
        exact iteF (k' _ ((S3.trans s4).trans (s5.trans s6)))
      | true =>
        rw [h1] at k'
        refine iteT ?_
        have s26 := s24.trans (s5.trans s6)
        refine ⟨_, rfl, _, rfl, ya, dx, gs, rfl, s26 _ _ hya, hf.m6, .ref ya, U, M, _, rfl, hy.same s26, q.o, q.bk, q.len, q.e, fun H7 r7 s7 nr7 hr7 => ?_⟩
        refine ⟨v, bdF U f, r7, _, rfl, stabBd.same ((s5.trans s6).trans s7) hv, hr7, by rw [rowL_len]; omega, fun H8 s8 => ?_⟩
        rw [e2]
        exact k' _ ((((S3.trans s4).trans (s5.trans s6)).trans s7).trans s8)
end
end Sl


end
section
set_option Elab.async false
set_option linter.all false
set_option maxRecDepth 100000
set_option maxHeartbeats 4000000
namespace Sl
open PySem PySem.Spec PyProof.Rows L2
/-! ### the stream of draws -/
def SV (H : Hp) (a : Addr) : Prop := ∃ x y : Nat, H a = some (.lst [vN x, vN y]) ∧ y < 2147483647
theorem SV.same {H H' : Hp} {a : Addr} (h : SV H a) (s : Same H H') : SV H' a := by
  obtain ⟨x, y, h, l⟩ := h
  exact ⟨x, y, s _ _ h, l⟩
theorem SV.mod {H H' : Hp} {a l : Addr} (h : SV H a) (ne : a ≠ l) (m : Mod l H H') : SV H' a := by
  obtain ⟨x, y, h, b⟩ := h
  exact ⟨x, y, m _ _ ne h, b⟩
theorem SV.lst {H : Hp} {a : Addr} (h : SV H a) : ∃ ys, H a = some (.lst ys) := by
  obtain ⟨x, y, h, _⟩ := h
  exact ⟨_, h⟩
theorem absV (c : Int) : V.int (if c < 0 then -c else c) = vN c.natAbs := by
  congr 1
  split <;> omega
theorem pz {n : Nat} : 0 < n + 1 := Nat.succ_pos n
theorem lt69 : 69621 < 2 ^ 400 := by decide
theorem lt8 : 8 < 2 ^ 400 := by decide
theorem small400 {n : Nat} (h : n < 2 ^ 80) : n < 2 ^ 400 := p400 h (by decide)
section
variable {P : Program} {w : World} {K : PySem.W.Frag} {mg : Str → Option Value} {base : Heap}
def sp__law_stream : Sp := fun vs H Q _ => ∃ (c : Int) (k : Nat), vs = [.int c, vN k] ∧ k < 2 ^ 60 ∧ ∀ H' p, Same H H' → H p = none → SV H' p → Q (.ref p) H'
abbrev n__law_stream : List Str := ["_law_cell", "_law_k"]
theorem sc__law_stream : FnScope n__law_stream ["_law_cell", "_law_k"] (defScope s__law_stream) := ⟨rfl, rfl, rfl, by decide +kernel, rfl, by decide +kernel, by decide +kernel⟩
theorem ok__law_stream (T : Txt K mg) : Cl P w K mg base CX0 "_law_stream" ["_law_cell", "_law_k"] 1 [] sp__law_stream := by
  obtain ⟨fd, F⟩ := T.def_ 78 (d := d__law_stream) rfl
  refine cl_ok F (T.glo 61) (fun _ _ _ _ _ _ us hl => match us, hl with | [_, _], _ => rfl) sc__law_stream (fun vs H Q E h => ?_) (fun cdv A outer s H vs Q E hr h => ?_)
  · obtain ⟨c, k, rfl, _⟩ := h
    rfl
  · obtain ⟨c, m, rfl, hm, k⟩ := h
    refine ⟨_, (pss_one (ps_ret (pe_lst (pa_cons (pe_callB call_abs (by rfl) (T.free 97) bt_abs (pa_cons (pv 0) pa_nil)) (pa_cons (pe_op oMod (pe_op oMul (pe_op oAdd (pe_op oMod (pe_callB call_abs (by rfl) (T.free 97) bt_abs (pa_cons (pv 0) pa_nil)) pe_int) pe_int) (pe_op oAdd (pe_op oMul pe_int (pv 1)) pe_int)) pe_int) pa_nil))))), ?_⟩
    refine ⟨_, rfl, c, rfl, ?_⟩
    rw [absV]
    refine ⟨_, rfl, c, rfl, ?_⟩
    rw [absV]
    have b1 : c.natAbs % 2147483629 < 2147483629 := Nat.mod_lt _ (by decide)
    refine ⟨c.natAbs, 2147483629, rfl, rfl, pz, c.natAbs % 2147483629, 1, rfl, rfl, _, rfl, 2, m, rfl, rfl, ⟨by decide, small400 (by omega)⟩, 2 * m, 16807, rfl, rfl, c.natAbs % 2147483629 + 1, 2 * m + 16807, rfl, rfl, ⟨small400 (by omega), small400 (by omega)⟩, _, 2147483647, rfl, rfl, pz, z2, fun p np => ?_⟩
    exact k _ p (Same.new np) np ⟨_, _, upd_same, Nat.mod_lt _ (by decide)⟩
def sp__law_draw : Sp := fun vs H Q _ => ∃ (a : Addr) (m : Nat), vs = [.ref a, vN m] ∧ SV H a ∧ 1 ≤ m ∧ m < 2 ^ 300 ∧ ∀ H' n, Mod a H H' → SV H' a → n < m → Q (vN n) H'
abbrev n__law_draw : List Str := ["_law_stream_here", "_law_many", "_law_found", "_law_stirred"]
theorem sc__law_draw : FnScope n__law_draw ["_law_stream_here", "_law_many"] (defScope s__law_draw) := ⟨rfl, rfl, rfl, by decide +kernel, rfl, by decide +kernel, by decide +kernel⟩
theorem ok__law_draw (T : Txt K mg) : Cl P w K mg base CX0 "_law_draw" ["_law_stream_here", "_law_many"] 1 [] sp__law_draw := by
  obtain ⟨fd, F⟩ := T.def_ 79 (d := d__law_draw) rfl
  refine cl_ok F (T.glo 62) (fun _ _ _ _ _ _ us hl => match us, hl with | [_, _], _ => rfl) sc__law_draw (fun vs H Q E h => ?_) (fun cdv A outer s H vs Q E hr h => ?_)
  · obtain ⟨a, m, rfl, _⟩ := h
    rfl
  · obtain ⟨a, m, rfl, ⟨x, y, ha, hy⟩, hm1, hm2, k⟩ := h
    refine ⟨_, (pss_cons (ps_if (pt_cmpR oGe (pe_ix (ix_listK K) (pv 0) pe_int (fun _ _ => rfl)) (pe_op op_pow pe_int pe_int) (nomark _))
        (pss_cons (ps_set (i := 2) sc__law_draw.nd rfl (Or.inl rfl) (pe_op oMod (pe_ix (ix_listK K) (pv 0) pe_int (fun _ _ => rfl)) (pv 1)))
        (pss_cons (ps_asg (pe_op oDiv (pe_ix (ix_listK K) (pv 0) pe_int (fun _ _ => rfl)) (pv 1)) (pg_sub (pv 0) pe_int set_list))
        (pss_one (ps_ret (pv 2)))))
        pss_nil)
      (pss_cons (ps_asg (pe_op oMod (pe_op oMul (pe_op oAdd (pe_ix (ix_listK K) (pv 0) pe_int (fun _ _ => rfl)) pe_int) pe_int) pe_int) (pg_sub (pv 0) pe_int set_list))
      (pss_cons (ps_set (i := 3) sc__law_draw.nd rfl (Or.inl rfl) (pe_op oMod (pe_op oMul (pe_ix (ix_listK K) (pv 0) pe_int (fun _ _ => rfl)) (pe_ix (ix_listK K) (pv 0) pe_int (fun _ _ => rfl))) pe_int))
      (pss_one (ps_ret (pe_op oMod (pe_op oDiv (pe_op oMod (pe_op oMul (pv 3) pe_int) pe_int) pe_int) (pv 1))))))), ?_⟩
    have hm4 := p400 hm2 (by decide)
    refine ⟨_, rfl, a, _, _, _, rfl, rfl, SqL.h ha, atI_nat (j := 0) rfl, 10, 18, rfl, rfl, ⟨by decide, by decide, by decide⟩, x, 1000000000000000000, rfl, congrArg V.int (by decide), _, rfl, ite2 (fun h1 => ?_) (fun h1 => ?_)⟩
    · refine ⟨_, rfl, a, _, _, _, rfl, rfl, SqL.h ha, atI_nat (j := 0) rfl, _, rfl, x, m, rfl, rfl, by omega, ?_⟩
      refine ⟨_, rfl, a, _, _, _, rfl, rfl, SqL.h ha, atI_nat (j := 0) rfl, _, rfl, x, m, rfl, rfl, ⟨by omega, hm4⟩, ?_⟩
      refine ⟨_, rfl, a, _, _, 0, rfl, rfl, ha, ix0 (Nat.succ_pos _), ?_⟩
      exact ⟨_, rfl, k _ _ Mod.upd ⟨x / m, y, upd_same, hy⟩ (Nat.mod_lt _ (by omega))⟩
    · refine ⟨_, rfl, a, _, _, _, rfl, rfl, SqL.h ha, atI_nat (j := 1) rfl, y, 1, rfl, rfl, y + 1, 48271, rfl, rfl, ⟨small400 (by omega), by decide⟩, _, 2147483647, rfl, rfl, pz, ?_⟩
      have hn : (y + 1) * 48271 % 2147483647 < 2147483647 := Nat.mod_lt _ (by decide)
      refine ⟨_, rfl, a, _, _, 1, rfl, rfl, ha, (show ixN 2 1 = some 1 by decide), ?_⟩
      have ha2 : (upd H a (.lst ([vN x, vN y].set 1 (vN ((y + 1) * 48271 % 2147483647))))) a = some (.lst [vN x, vN ((y + 1) * 48271 % 2147483647)]) := upd_same
      refine ⟨_, rfl, a, _, _, _, rfl, rfl, SqL.h ha2, atI_nat (j := 1) rfl, _, rfl, a, _, _, _, rfl, rfl, SqL.h ha2, atI_nat (j := 1) rfl, (y + 1) * 48271 % 2147483647, (y + 1) * 48271 % 2147483647, rfl, rfl, ⟨small400 (by omega), small400 (by omega)⟩, _, 2147483629, rfl, rfl, pz, ?_⟩
      have hn2 : (y + 1) * 48271 % 2147483647 * ((y + 1) * 48271 % 2147483647) % 2147483629 < 2147483629 := Nat.mod_lt _ (by decide)
      refine ⟨_, rfl, _, 69621, rfl, rfl, ⟨small400 (Nat.lt_trans hn2 (by decide)), lt69⟩, _, 2147483587, rfl, rfl, pz, _, 8, rfl, rfl, ⟨pz, lt8⟩, _, rfl, _, m, rfl, rfl, by omega, ?_⟩
      exact k _ _ Mod.upd ⟨x, _, ha2, hn⟩ (Nat.mod_lt _ (by omega))
theorem pick_sym (j : Nat) : ∃ z, Sym z ∧ ([V.str sB, .str sQ, .str sa, .str sb] : List V)[min 3 j]? = some (.str z) := by
  have h : min 3 j = 0 ∨ min 3 j = 1 ∨ min 3 j = 2 ∨ min 3 j = 3 := by omega
  rcases h with h | h | h | h <;> rw [h]
  · exact ⟨sB, .inl rfl, rfl⟩
  · exact ⟨sQ, .inr (.inl rfl), rfl⟩
  · exact ⟨sa, .inr (.inr (.inl rfl)), rfl⟩
  · exact ⟨sb, .inr (.inr (.inr rfl)), rfl⟩
/-- what a drawn text is -/
structure TxD (rs : Rn) (most scale : Nat) : Prop where
  wr : Wr yes rs
  sym : ∀ x ∈ rs, Sym x.1
  cnt : ∀ x ∈ rs, x.2 ≤ scale ∧ (x.1 = sQ → x.2 ≤ 4)
  len : rs.length ≤ most
def sp__law_text : Sp := fun vs H Q _ => ∃ (a : Addr) (most scale : Nat), vs = [.ref a, vN most, vN scale] ∧ SV H a ∧ most ≤ 1000 ∧ 1 ≤ scale ∧ scale < 2 ^ 200 ∧ ∀ H' p rs, Mod a H H' → SV H' a → H p = none → p ≠ a → LT H' p (enR rs) → TxD rs most scale → Q (.ref p) H'
abbrev n__law_text : List Str := ["_law_stream_here", "_law_most", "_law_scale", "_law_found", "_law_k", "_law_symbol", "_law_most_here"]
theorem sc__law_text : FnScope n__law_text ["_law_stream_here", "_law_most", "_law_scale"] (defScope s__law_text) := ⟨rfl, rfl, rfl, by decide +kernel, rfl, by decide +kernel, by decide +kernel⟩
theorem ok__law_text (T : Txt K mg) : Cl P w K mg base CX0 "_law_text" ["_law_stream_here", "_law_most", "_law_scale"] 2 [] sp__law_text := by
  obtain ⟨fd, F⟩ := T.def_ 80 (d := d__law_text) rfl
  have C__law_draw := ok__law_draw (P := P) (w := w) (base := base) T
  refine cl_ok F (T.glo 63) (fun _ _ _ _ _ _ us hl => match us, hl with | [_, _, _], _ => rfl) sc__law_text (fun vs H Q E h => ?_) (fun cdv A outer s H vs Q E hr h => ?_)
  · obtain ⟨a, most, scale, rfl, _⟩ := h
    rfl
  · obtain ⟨a, most, scale, rfl, hs, hm, hs1, hs2', k⟩ := h
    refine ⟨_, (pss_cons (ps_set (i := 3) sc__law_text.nd rfl (Or.inl rfl) (pe_lst pa_nil))
      (pss_cons (ps_for PassesOwn.never rfl (pi_range1 (by rfl) (T.free 91) (pa_cons (pe_cl C__law_draw (hr.mono (by decide)) (pa_cons (pv 0) (pa_cons (pe_op oAdd (pv 1) pe_int) pa_nil))) pa_nil)) (pg_name (i := 4) sc__law_text.nd rfl (Or.inl rfl))
        (pss_cons (ps_set (i := 5) sc__law_text.nd rfl (Or.inl rfl) (pe_ix (ix_listK K) (pe_lst (pa_cons pe_str (pa_cons pe_str (pa_cons pe_str (pa_cons pe_str pa_nil))))) (pe_callB (call_min2 rfl) (by rfl) (T.free 95) bt_min (pa_cons pe_int (pa_cons (pe_op oAdd (pe_op oDiv (pe_cl C__law_draw (hr.mono (by decide)) (pa_cons (pv 0) (pa_cons pe_int pa_nil))) pe_int) (pe_callTy call_int1 (by rfl) (T.free 85) bt_int (pa_cons (pe_cmpR oEq (pe_op oMod (pv 4) pe_int) pe_int (nomark _)) pa_nil))) pa_nil))) (fun _ _ => rfl)))
        (pss_one (ps_if (PW.pt (pw_or (pt_cmpR (op_eqDK K hr.units) (pv 3) (pe_lst pa_nil) (nomark _)) (pw_or1 (pt_cmpR oNeS (pe_ix (ix_tupK K) (pe_ix (ix_listK K) (pv 3) (pe_un un_neg pe_int) (fun _ _ => rfl)) pe_int (fun _ _ => rfl)) (pv 5) (nomark _)))))
          (pss_cons (ps_set (i := 6) sc__law_text.nd rfl (Or.inl rfl) (pe_ifExp (pt_cmpR oEqS (pv 5) pe_str (nomark _)) (pe_callB (call_min2 rfl) (by rfl) (T.free 95) bt_min (pa_cons (pv 2) (pa_cons pe_int pa_nil))) (pv 2)))
          (pss_one (ps_expr (pe_bm PySem.F.plainAttrs_list PySem.F.slot_list_append PySem.F.type_list_append mt_append (pv 3) (pa_cons (pe_tup (pa_cons (pv 5) (pa_cons (pe_op oAdd pe_int (pe_cl C__law_draw (hr.mono (by decide)) (pa_cons (pv 0) (pa_cons (pv 6) pa_nil)))) pa_nil))) pa_nil)))))
          pss_nil))))
      (pss_one (ps_ret (pv 3))))), ?_⟩
    refine ⟨z0, fun l nl => ?_⟩
    have s0 : Same H (upd H l (.lst [])) := Same.new nl
    have la : l ≠ a := by
      rintro rfl
      obtain ⟨ys, hy⟩ := hs.lst
      rw [nl] at hy; cases hy
    refine ⟨_, rfl, _, rfl, most, 1, rfl, rfl, a, most + 1, rfl, hs.same s0, by omega, by omega, fun H1 n m1 hs1' hn => ?_⟩
    have hl1 : LT H1 l (enR []) := LT.nil (m1 _ _ la upd_same)
    refine ⟨(n : Int), rfl, by omega, by omega, ?_⟩
    rw [Int.toNat_natCast]
    refine for_range (lo := 0) (n := n) (fun i σ H' => Mod a H H' ∧ SV H' a ∧ ∃ (v4 v5 v6 : Option V) (rs : Rn), σ = [some (.ref a), some (vN most), some (vN scale), some (.ref l), v4, v5, v6] ∧ LT H' l (enR rs) ∧ TxD rs i scale)
      ⟨(Mod.of_same s0).trans m1, hs1', none, none, none, [], rfl, hl1, ⟨⟨fun _ h => (nomatch h), trivial⟩, fun _ h => (nomatch h), fun _ h => (nomatch h), Nat.le_refl _⟩⟩ ?_ ?_
    · rintro i σ H' hi ⟨mH, hsH, v4, v5, v6, rs, rfl, hl, ht⟩
      have e0 : (0 : Int) + (i : Nat) = ((i : Nat) : Int) := by omega
      rw [e0]
      refine ⟨z4, fun p np => ?_⟩
      have s1 : Same H' (upd H' p (.lst [.str sB, .str sQ, .str sa, .str sb])) := Same.new np
      have pa : p ≠ a := by
        rintro rfl
        obtain ⟨ys, hy⟩ := hsH.lst
        rw [np] at hy; cases hy
      refine ⟨_, rfl, a, 6, rfl, hsH.same s1, by decide, by decide, fun H2 d m2 hs2 hd => ?_⟩
      have hp2 : H2 p = some (.lst [.str sB, .str sQ, .str sa, .str sb]) := m2 _ _ pa upd_same
      refine ⟨d, 2, rfl, rfl, ⟨by decide, by decide⟩, _, rfl, i, 4, rfl, rfl, pz, i % 4, 3, rfl, rfl, .inr ⟨_, rfl, ?_⟩⟩
      rw [intV]
      refine ⟨d / 2, _, rfl, rfl, ((3 : Nat) : Int), ((d / 2 + (decide (i % 4 = 3)).toNat : Nat) : Int), rfl, ?_⟩
      rw [minV]
      obtain ⟨z, hz, ez⟩ := pick_sym (d / 2 + (decide (i % 4 = 3)).toNat)
      refine ⟨p, _, _, _, rfl, rfl, SqL.h hp2, atI_nat ez, ?_⟩
      have m1 : Mod a H' H2 := (Mod.of_same s1).trans m2
      obtain ⟨ays, hays⟩ := hsH.lst
      have hl2 := hl.mod la hays m1
      have ok : ∀ r ∈ enR rs, r.all okV = true := fun r hr => ok_ns (enR_ns ht.sym r hr)
      -- the append
      have body : ∀ (H3 : Hp), Same H2 H3 → ¬ (∃ L e, rs = L ++ [(z, e)]) → tSeq (tAsg (tIf (tTest (tOp (rS fun a b => decide (a = b)) (tVar 5) (tC (.str sQ)))) (tCB (fun xs H Q => ∃ i j, xs = [V.int i, V.int j] ∧ Q (V.int (if j < i then j else i)) H) (tCons (tVar 2) (tCons (tC (.int 4)) tNil))) (tVar 2)) (gName 6))
          (tDrop (tBM K "list" rAppend (tVar 3) (tCons (tTup (tCons (tVar 5) (tCons (tOp (rN0 fun n m => vN (n + m)) (tC (.int 1)) (tCall sp__law_draw [] E0 (tCons (tVar 0) (tCons (tVar 6) tNil)))) tNil))) tNil)))
          { nx := fun σ H' => Mod a H H' ∧ SV H' a ∧ ∃ (v4 v5 v6 : Option V) (rs : Rn), σ = [some (.ref a), some (vN most), some (vN scale), some (.ref l), v4, v5, v6] ∧ LT H' l (enR rs) ∧ TxD rs (i + 1) scale, rt := Q } [some (.ref a), some (vN most), some (vN scale), some (.ref l), some (vN i), some (.str z), v6] H3 := fun H3 s3 hno => by
        have hl3 := hl2.same s3
        obtain ⟨ys, hys, hyl⟩ := hl3.lst
        rw [enR_len] at hyl
        have app : ∀ mh : Nat, 1 ≤ mh → mh ≤ scale → (z = sQ → mh ≤ 4) → tDrop (tBM K "list" rAppend (tVar 3) (tCons (tTup (tCons (tVar 5) (tCons (tOp (rN0 fun n m => vN (n + m)) (tC (.int 1)) (tCall sp__law_draw [] E0 (tCons (tVar 0) (tCons (tVar 6) tNil)))) tNil))) tNil))
            { nx := fun σ H' => Mod a H H' ∧ SV H' a ∧ ∃ (v4 v5 v6 : Option V) (rs : Rn), σ = [some (.ref a), some (vN most), some (vN scale), some (.ref l), v4, v5, v6] ∧ LT H' l (enR rs) ∧ TxD rs (i + 1) scale, rt := Q } [some (.ref a), some (vN most), some (vN scale), some (.ref l), some (vN i), some (.str z), some (vN mh)] H3 := fun mh h1 h2 h3 => by
          refine ⟨_, rfl, .inl ⟨rfl, _, SqL.h hys⟩, _, rfl, _, rfl, _, rfl, a, mh, rfl, hs2.same s3, h1, Nat.lt_of_le_of_lt h2 (Nat.lt_of_lt_of_le hs2' (Nat.pow_le_pow_right (by decide) (by decide))), fun H4 n m4 hs4 hn => ?_⟩
          refine ⟨1, n, rfl, rfl, z2, fun t nt => ?_⟩
          obtain ⟨ays3, hays3⟩ := (hs2.same s3).lst
          have hl4 := hl3.mod la hays3 m4
          have hys4 := m4 _ _ la hys
          have s5 : Same H4 (upd H4 t (.tup [.str z, vN (1 + n)])) := Same.new nt
          have hys5 := s5 _ _ hys4
          have hlen := ht.len
          refine ⟨l, ys, _, rfl, rfl, hys5, by rw [hyl]; exact slt (by omega), ?_⟩
          have hl5 := (hl4.same s5).push (p := t) hys5 upd_same
          have mA : Mod a H (upd H4 t (.tup [.str z, vN (1 + n)])) := (((mH.trans m1).trans (Mod.of_same s3)).trans m4).trans (Mod.of_same s5)
          refine ⟨Mod.mut mA nl, (hs4.same s5).mod (Ne.symm la) Mod.upd, _, _, _, rs ++ [(z, 1 + n)], rfl, by rw [enR_app]; exact hl5, ?_⟩
          have ad : rs ++ [(z, 1 + n)] = addR yes rs z (1 + n) := by
            rcases nil_or_snoc rs with e | ⟨L, ⟨j, dd⟩, e⟩
            · rw [e, addR_nil _ (by omega)]; rfl
            · rw [e, addR_other L (by omega) fun q => hno ⟨L, dd, by rw [e, q.1]⟩]
          refine ⟨by rw [ad]; exact ht.wr.add z _, fun x hx => ?_, fun x hx => ?_, by rw [List.length_append]; exact Nat.succ_le_succ hlen⟩
          · rcases List.mem_append.mp hx with q | q
            · exact ht.sym x q
            · rw [List.mem_singleton.mp q]; exact hz
          · rcases List.mem_append.mp hx with q | q
            · exact ht.cnt x q
            · rw [List.mem_singleton.mp q]
              exact ⟨by show 1 + n ≤ scale; omega, fun e => by have := h3 e; show 1 + n ≤ 4; omega⟩
        refine ⟨_, rfl, z, sQ, rfl, rfl, _, rfl, ite2 (fun h1 => ?_) (fun h1 => ?_)⟩
        · refine ⟨_, rfl, (scale : Int), ((4 : Nat) : Int), rfl, ?_⟩
          rw [minV]
          exact app (min scale 4) (by omega) (Nat.min_le_left _ _) fun _ => Nat.min_le_right _ _
        · exact ⟨_, rfl, app scale hs1 (Nat.le_refl _) fun e => absurd (decide_eq_true e) h1⟩
      refine ⟨_, rfl, z0, fun q nq => ?_⟩
      have s3 : Same H2 (upd H2 q (.lst [])) := Same.new nq
      refine ⟨_, _, (hl2.same s3).dpo ok, (LT.nil upd_same).dpo (fun r hr => nomatch hr), shaped_rows ok, shaped_rows (fun r hr => nomatch hr), (enR rs).isEmpty, congrArg V.bl eqv_E, ?_⟩
      rcases nil_or_snoc rs with e | ⟨L, ⟨j, dd⟩, e⟩
      · have eE : (enR rs).isEmpty = true := by rw [e]; rfl
        rw [eE]
        refine iteT ?_
        exact body _ s3 fun ⟨L, dd, q⟩ => by rw [e] at q; cases L <;> cases q
      · have eE : (enR rs).isEmpty = false := by rw [e, enR_app]; cases enR L <;> rfl
        rw [eE]
        refine iteF ?_
        have hl3 := hl2.same s3
        rw [e, enR_app] at hl3
        obtain ⟨ys, t, e1, e2, e3⟩ := hl3.last
        refine ⟨_, rfl, 1, rfl, l, _, _, _, rfl, rfl, SqL.h e1, atI_last _ _, t, _, _, _, rfl, rfl, SqT.h e2, atI_nat (j := 0) rfl, _, rfl, j, z, rfl, rfl, ?_⟩
        by_cases hj : j = z
        · refine ⟨false, decNF hj, iteF ?_⟩
          refine ⟨(mH.trans m1).trans (Mod.of_same s3), hs2.same s3, _, _, _, rs, rfl, hl2.same s3, ⟨ht.wr, ht.sym, ht.cnt, by have := ht.len; omega⟩⟩
        · refine ⟨true, decNT hj, iteT ?_⟩
          exact body _ s3 fun ⟨L', d', q⟩ => hj (by
            rw [e] at q
            have := congrArg List.getLast? q
            rw [List.getLast?_concat, List.getLast?_concat] at this
            injection this with this
            injection this with this)
    · rintro σ H' ⟨mH, hsH, v4, v5, v6, rs, rfl, hl, ht⟩
      exact ⟨_, rfl, k H' l rs mH hsH nl la hl ⟨ht.wr, ht.sym, ht.cnt, by have := ht.len; omega⟩⟩
end
end Sl


end
section
set_option Elab.async false
set_option linter.all false
set_option maxRecDepth 100000
set_option maxHeartbeats 4000000
namespace Sl
open PySem PySem.Spec PyProof.Rows L2
/-! ### drawn scripts -/
def OpW (a l : Addr) (H : Hp) (x : V) (op : Op) : Prop := ∃ t, x = .ref t ∧ match op with
  | .inl k => H t = some (.tup [.str sEsc, vN k])
  | .inr rs => ∃ b, b ≠ a ∧ b ≠ l ∧ H t = some (.tup [.str sApp, .ref b]) ∧ LT H b (enR rs)
theorem OpW.same {a l : Addr} {H H' : Hp} (s : Same H H') {x : V} {op : Op} (h : OpW a l H x op) : OpW a l H' x op := by
  obtain ⟨t, e, h⟩ := h
  refine ⟨t, e, ?_⟩
  cases op with
  | inl k => exact s _ _ h
  | inr rs => obtain ⟨b, n1, n2, h1, h2⟩ := h; exact ⟨b, n1, n2, s _ _ h1, h2.same s⟩
theorem OpW.mod {a l c : Addr} (hc : c = a ∨ c = l) {ys : List V} {H H' : Hp} (m : Mod c H H') (hl : H c = some (.lst ys)) {x : V} {op : Op} (h : OpW a l H x op) : OpW a l H' x op := by
  obtain ⟨t, e, h⟩ := h
  refine ⟨t, e, ?_⟩
  cases op with
  | inl k =>
    have h : H t = some (.tup [.str sEsc, vN k]) := h
    exact m _ _ (ne_lt hl h) h
  | inr rs =>
    obtain ⟨b, n1, n2, h1, h2⟩ := h
    exact ⟨b, n1, n2, m _ _ (ne_lt hl h1) h1, h2.mod (by rcases hc with e | e <;> rw [e] <;> assumption) hl m⟩
theorem OpW.v {a l : Addr} {H : Hp} {x : V} {op : Op} (h : OpW a l H x op) : OpV H x op := by
  obtain ⟨t, e, h⟩ := h
  refine ⟨t, e, ?_⟩
  cases op with
  | inl k => exact h
  | inr rs => obtain ⟨b, n1, n2, h1, h2⟩ := h; exact ⟨b, h1, h2⟩
def SW (a l : Addr) (H : Hp) (ops : List Op) : Prop := ∃ xs, H l = some (.lst xs) ∧ Paired (OpW a l H) xs ops
theorem SW.same {a l : Addr} {H H' : Hp} {ops : List Op} (h : SW a l H ops) (s : Same H H') : SW a l H' ops := by
  obtain ⟨xs, h1, h2⟩ := h
  exact ⟨xs, s _ _ h1, L2.Paired.mapP h2 fun _ _ => OpW.same s⟩
theorem SW.modA {a l : Addr} {H H' : Hp} {ops : List Op} (h : SW a l H ops) (la : l ≠ a) (hs : SV H a) (m : Mod a H H') : SW a l H' ops := by
  obtain ⟨xs, h1, h2⟩ := h
  obtain ⟨ys, hy⟩ := hs.lst
  exact ⟨xs, m _ _ la h1, L2.Paired.mapP h2 fun _ _ => OpW.mod (.inl rfl) m hy⟩
theorem SW.push {a l : Addr} {H : Hp} {ops : List Op} {xs : List V} {x : V} {op : Op} (h : SW a l H ops) (hl : H l = some (.lst xs)) (hx : OpW a l H x op) : SW a l (L2.upd H l (.lst (xs ++ [x]))) (ops ++ [op]) := by
  obtain ⟨ys, h1, h2⟩ := h
  rw [hl] at h1
  cases h1
  exact ⟨_, upd_same, Paired.app (L2.Paired.mapP h2 fun _ _ => OpW.mod (.inr rfl) Mod.upd hl) (.cons (OpW.mod (.inr rfl) Mod.upd hl hx) .nil)⟩
theorem SW.st {a l : Addr} {H : Hp} {ops : List Op} (h : SW a l H ops) : ST H l ops := by
  obtain ⟨xs, h1, h2⟩ := h
  exact ⟨xs, h1, L2.Paired.mapP h2 fun _ _ q => OpW.v q⟩
theorem SW.lst {a l : Addr} {H : Hp} {ops : List Op} (h : SW a l H ops) : ∃ xs, H l = some (.lst xs) ∧ xs.length = ops.length := by
  obtain ⟨xs, h1, h2⟩ := h
  exact ⟨xs, h1, Paired.length h2⟩
def OpD (scale : Nat) : Op → Prop
  | .inl k => 1 ≤ k ∧ k ≤ 5
  | .inr rs => TxD rs 3 scale ∧ 1 ≤ rs.length
section
variable {P : Program} {w : World} {K : PySem.W.Frag} {mg : Str → Option Value} {base : Heap}
def sp__law_script : Sp := fun vs H Q _ => ∃ (a : Addr) (steps scale : Nat), vs = [.ref a, vN steps, vN scale] ∧ SV H a ∧ steps ≤ 1000 ∧ 1 ≤ scale ∧ scale < 2 ^ 200 ∧ ∀ H' p ops, Mod a H H' → SV H' a → H p = none → p ≠ a → ST H' p ops → (∀ op ∈ ops, OpD scale op) → ops.length ≤ steps → Q (.ref p) H'
abbrev n__law_script : List Str := ["_law_stream_here", "_law_steps", "_law_scale", "_law_found", "_law_k", "_law_text_here"]
theorem sc__law_script : FnScope n__law_script ["_law_stream_here", "_law_steps", "_law_scale"] (defScope s__law_script) := ⟨rfl, rfl, rfl, by decide +kernel, rfl, by decide +kernel, by decide +kernel⟩
theorem ok__law_script (T : Txt K mg) : Cl P w K mg base CX0 "_law_script" ["_law_stream_here", "_law_steps", "_law_scale"] 3 [] sp__law_script := by
  obtain ⟨fd, F⟩ := T.def_ 81 (d := d__law_script) rfl
  have C__law_draw := ok__law_draw (P := P) (w := w) (base := base) T
  have C__law_text := ok__law_text (P := P) (w := w) (base := base) T
  refine cl_ok F (T.glo 64) (fun _ _ _ _ _ _ us hl => match us, hl with | [_, _, _], _ => rfl) sc__law_script (fun vs H Q E h => ?_) (fun cdv A outer s H vs Q E hr h => ?_)
  · obtain ⟨a, steps, scale, rfl, _⟩ := h
    rfl
  · obtain ⟨a, steps, scale, rfl, hs, hm, hs1, hs2, k⟩ := h
    refine ⟨_, (pss_cons (ps_set (i := 3) sc__law_script.nd rfl (Or.inl rfl) (pe_lst pa_nil))
      (pss_cons (ps_for PassesOwn.never rfl (pi_range1 (by rfl) (T.free 91) (pa_cons (pe_cl C__law_draw (hr.mono (by decide)) (pa_cons (pv 0) (pa_cons (pe_op oAdd (pv 1) pe_int) pa_nil))) pa_nil)) (pg_name (i := 4) sc__law_script.nd rfl (Or.inl rfl))
        (pss_cons (ps_set (i := 5) sc__law_script.nd rfl (Or.inl rfl) (pe_cl C__law_text (hr.mono (by decide)) (pa_cons (pv 0) (pa_cons pe_int (pa_cons (pv 2) pa_nil)))))
        (pss_one (ps_if (pt_cmpR oEq (pe_cl C__law_draw (hr.mono (by decide)) (pa_cons (pv 0) (pa_cons pe_int pa_nil))) pe_int (nomark _))
          (pss_one (ps_expr (pe_bm PySem.F.plainAttrs_list PySem.F.slot_list_append PySem.F.type_list_append mt_append (pv 3) (pa_cons (pe_tup (pa_cons pe_str (pa_cons (pe_op oAdd pe_int (pe_cl C__law_draw (hr.mono (by decide)) (pa_cons (pv 0) (pa_cons pe_int pa_nil)))) pa_nil))) pa_nil))))
          (pss_one (ps_if (pt_cmpR (op_neDK K hr.units) (pv 5) (pe_lst pa_nil) (nomark _))
            (pss_one (ps_expr (pe_bm PySem.F.plainAttrs_list PySem.F.slot_list_append PySem.F.type_list_append mt_append (pv 3) (pa_cons (pe_tup (pa_cons pe_str (pa_cons (pv 5) pa_nil))) pa_nil))))
            pss_nil))))))
      (pss_one (ps_ret (pv 3))))), ?_⟩
    refine ⟨z0, fun l nl => ?_⟩
    have s0 : Same H (upd H l (.lst [])) := Same.new nl
    have la : l ≠ a := by
      rintro rfl
      obtain ⟨ys, hy⟩ := hs.lst
      rw [nl] at hy; cases hy
    refine ⟨_, rfl, _, rfl, steps, 1, rfl, rfl, a, steps + 1, rfl, hs.same s0, by omega, by omega, fun H1 n m1 hs1' hn => ?_⟩
    have hl1 : SW a l H1 [] := ⟨[], m1 _ _ la upd_same, .nil⟩
    refine ⟨(n : Int), rfl, by omega, by omega, ?_⟩
    rw [Int.toNat_natCast]
    refine for_range (lo := 0) (n := n) (fun i σ H' => Mod a H H' ∧ SV H' a ∧ ∃ (v4 v5 : Option V) (ops : List Op), σ = [some (.ref a), some (vN steps), some (vN scale), some (.ref l), v4, v5] ∧ SW a l H' ops ∧ (∀ op ∈ ops, OpD scale op) ∧ ops.length ≤ i)
      ⟨(Mod.of_same s0).trans m1, hs1', none, none, [], rfl, hl1, fun _ h => (nomatch h), Nat.le_refl _⟩ ?_ ?_
    · rintro i σ H' hi ⟨mH, hsH, v4, v5, ops, rfl, hl, ho, hz⟩
      refine ⟨_, rfl, _, rfl, a, 3, scale, rfl, hsH, by decide, hs1, hs2, fun H2 p rs m2 hs2' np pa hp ht => ?_⟩
      have hl2 := hl.modA la hsH m2
      have pl : p ≠ l := by
        rintro rfl
        obtain ⟨q, hq, _⟩ := hl.lst
        rw [np] at hq; cases hq
      refine ⟨_, rfl, a, 3, rfl, hs2', by decide, by decide, fun H3 d m3 hs3 hd => ?_⟩
      have hl3 := hl2.modA la hs2' m3
      obtain ⟨ays, hays⟩ := hs2'.lst
      have hp3 := hp.mod pa hays m3
      have mH3 := (mH.trans m2).trans m3
      obtain ⟨ys, hys, hyl⟩ := hl3.lst
      refine ⟨d, 0, rfl, rfl, _, rfl, ite2 (fun h0 => ?_) (fun h0 => ?_)⟩
      · refine ⟨_, rfl, .inl ⟨rfl, _, SqL.h hys⟩, _, rfl, a, 5, rfl, hs3, by decide, by decide, fun H4 e m4 hs4 he => ?_⟩
        have hl4 := hl3.modA la hs3 m4
        have hys4 := m4 _ _ la hys
        refine ⟨1, e, rfl, rfl, z2, fun t nt => ?_⟩
        have s5 : Same H4 (upd H4 t (.tup [.str sEsc, vN (1 + e)])) := Same.new nt
        have hys5 := s5 _ _ hys4
        refine ⟨l, ys, _, rfl, rfl, hys5, by rw [hyl]; exact slt (by omega), ?_⟩
        have hl5 := (hl4.same s5).push (op := .inl (1 + e)) hys5 ⟨t, rfl, upd_same⟩
        refine ⟨Mod.mut ((mH3.trans m4).trans (Mod.of_same s5)) nl, (hs4.same s5).mod (Ne.symm la) Mod.upd, _, _, _, rfl, hl5, fun op hop => ?_, by rw [List.length_append]; exact Nat.succ_le_succ hz⟩
        rcases List.mem_append.mp hop with q | q
        · exact ho op q
        · rw [List.mem_singleton.mp q]
          exact ⟨by omega, by omega⟩
      · refine ⟨_, rfl, z0, fun q nq => ?_⟩
        have s4 : Same H3 (upd H3 q (.lst [])) := Same.new nq
        have ok : ∀ r ∈ enR rs, r.all okV = true := fun r hr => ok_ns (enR_ns ht.sym r hr)
        refine ⟨_, _, (hp3.same s4).dpo ok, (LT.nil upd_same).dpo (fun r hr => nomatch hr), shaped_rows ok, shaped_rows (fun r hr => nomatch hr), !(enR rs).isEmpty, congrArg (fun b => V.bl (!b)) eqv_E, ?_⟩
        have hl4 := hl3.same s4
        have hys4 := s4 _ _ hys
        cases rs with
        | nil =>
          refine iteF ?_
          exact ⟨mH3.trans (Mod.of_same s4), hs3.same s4, _, _, ops, rfl, hl4, ho, by omega⟩
        | cons x r =>
          refine iteT ?_
          refine ⟨_, rfl, .inl ⟨rfl, _, SqL.h hys4⟩, _, rfl, z2, fun t nt => ?_⟩
          have s5 : Same (upd H3 q (.lst [])) (upd (upd H3 q (.lst [])) t (.tup [.str sApp, .ref p])) := Same.new nt
          have hys5 := s5 _ _ hys4
          refine ⟨l, ys, _, rfl, rfl, hys5, by rw [hyl]; exact slt (by omega), ?_⟩
          have hl5 := (hl4.same s5).push (op := .inr (x :: r)) hys5 ⟨t, rfl, p, pa, pl, upd_same, (hp3.same s4).same s5⟩
          refine ⟨Mod.mut (mH3.trans (Mod.of_same (s4.trans s5))) nl, (hs3.same (s4.trans s5)).mod (Ne.symm la) Mod.upd, _, _, _, rfl, hl5, fun op hop => ?_, by rw [List.length_append]; exact Nat.succ_le_succ hz⟩
          rcases List.mem_append.mp hop with q | q
          · exact ho op q
          · rw [List.mem_singleton.mp q]
            exact ⟨ht, Nat.succ_le_succ (Nat.zero_le _)⟩
    · rintro σ H' ⟨mH, hsH, v4, v5, ops, rfl, hl, ho, hz⟩
      exact ⟨_, rfl, k H' l ops mH hsH nl la hl.st ho (by omega)⟩
/-! ### lowering -/
def sp__law_lowered : Sp := fun vs H Q _ => ∃ (a h : Addr) (U : List Un) (M : Nat) (cs : List Ch), vs = [.ref a, .ref h] ∧ SV H a ∧ h ≠ a ∧ LT H h (enB (rn yes cs)) ∧ UB U ∧ HB U M cs ∧ ∀ H' p ds, Mod a H H' → SV H' a → p ≠ a → HB U M ds → LT H' p (enB (rn yes ds)) → Q (.ref p) H'
theorem cs_len {U : List Un} {M : Nat} {cs : List Ch} (h : HB U M cs) : cs.length ≤ tot U := by
  rw [← h.tot]
  clear h
  induction cs with
  | nil => exact Nat.zero_le _
  | cons c r ih =>
    show r.length + 1 ≤ (List.replicate (wd c.1 c.2) c.2 ++ lvs r).length
    rw [List.length_append, List.length_replicate]
    have := wd_pos c.1 c.2
    omega
abbrev n__law_lowered : List Str := ["_law_stream_here", "_law_history", "_law_step", "_law_many", "_law_number"]
theorem sc__law_lowered : FnScope n__law_lowered ["_law_stream_here", "_law_history"] (defScope s__law_lowered) := ⟨rfl, rfl, rfl, by decide +kernel, rfl, by decide +kernel, by decide +kernel⟩
theorem ok__law_lowered (T : Txt K mg) : Cl P w K mg base CX0 "_law_lowered" ["_law_stream_here", "_law_history"] 9 [] sp__law_lowered := by
  obtain ⟨fd, F⟩ := T.def_ 82 (d := d__law_lowered) rfl
  have C__law_draw := ok__law_draw (P := P) (w := w) (base := base) T
  have C_count_characters := ok_count_characters (P := P) (w := w) (base := base) T
  have C_lowered := ok_lowered (P := P) (w := w) (base := base) T
  refine cl_ok F (T.glo 65) (fun _ _ _ _ _ _ us hl => match us, hl with | [_, _], _ => rfl) sc__law_lowered (fun vs H Q E h => ?_) (fun cdv A outer s H vs Q E hr h => ?_)
  · obtain ⟨a, h, U, M, cs, rfl, _⟩ := h
    rfl
  · obtain ⟨a, hh, U, M, cs, rfl, hs, ha, hb, o, hc, k⟩ := h
    refine ⟨_, (pss_cons (ps_for PassesOwn.never rfl (pi_range1 (by rfl) (T.free 91) (pa_cons (pe_cl C__law_draw (hr.mono (by decide)) (pa_cons (pv 0) (pa_cons pe_int pa_nil))) pa_nil)) (pg_name (i := 2) sc__law_lowered.nd rfl (Or.inl rfl))
        (pss_cons (ps_set (i := 3) sc__law_lowered.nd rfl (Or.inl rfl) (pe_cl C_count_characters (hr.mono (by decide)) (pa_cons (pv 1) pa_nil)))
        (pss_one (ps_if (pt_cmpR oGt (pv 3) pe_int (nomark _))
          (pss_cons (ps_set (i := 4) sc__law_lowered.nd rfl (Or.inl rfl) (pe_ix (ix_listK K) (pe_lst (pa_cons (pe_op oSub (pv 3) pe_int) (pa_cons (pe_cl C__law_draw (hr.mono (by decide)) (pa_cons (pv 0) (pa_cons (pv 3) pa_nil))) pa_nil))) (pe_cl C__law_draw (hr.mono (by decide)) (pa_cons (pv 0) (pa_cons pe_int pa_nil))) (fun _ _ => rfl)))
          (pss_one (ps_try_only (tb := fun W => tAsg (tCallS (sp_lowered K) (WE W) (tCons (tVar 1) (tCons (tVar 4) tNil))) (gName 1)) (ts := fun _ _ _ => tAsg (tC (.int 0)) (gName 4)) (Wout := fun _ _ _ _ => False) rfl rfl ⟨rfl, by decide, Or.inl (T.glo 78)⟩ takes0 (fun W pn xe tk _ => pss_one (ps_set (i := 1) sc__law_lowered.nd rfl (Or.inl rfl) (pe_clS C_lowered (hr.mono (by decide)) tk (pa_cons (pv 1) (pa_cons (pv 4) pa_nil))))) (fun a oe cls d pn hz hf => pss_one (ps_set (i := 4) sc__law_lowered.nd rfl (Or.inl rfl) pe_int)))))
          pss_nil))))
      (pss_one (ps_ret (pv 1)))), ?_⟩
    refine ⟨_, rfl, a, 25, rfl, hs, by decide, by decide, fun H1 n m1 hs1 hn => ?_⟩
    obtain ⟨ays, hays⟩ := hs.lst
    refine ⟨(n : Int), rfl, by omega, by omega, ?_⟩
    rw [Int.toNat_natCast]
    refine for_range (lo := 0) (n := n) (fun i σ H' => Mod a H H' ∧ SV H' a ∧ ∃ (v2 v3 v4 : Option V) (h : Addr) (ds : List Ch), σ = [some (.ref a), some (.ref h), v2, v3, v4] ∧ h ≠ a ∧ LT H' h (enB (rn yes ds)) ∧ HB U M ds)
      ⟨m1, hs1, none, none, none, hh, cs, rfl, ha, hb.mod ha hays m1, hc⟩ ?_ ?_
    · rintro i σ H' hi ⟨mH, hsH, v2, v3, v4, h, ds, rfl, hha, hl, hd⟩
      refine ⟨_, rfl, h, U, M, ds, rfl, hl, o, hd, fun H2 s2 => ?_⟩
      have hs2 := hsH.same s2
      have mH2 := mH.trans (Mod.of_same s2)
      have hl2 := hl.same s2
      have dl : ds.length < 2 ^ 300 := Nat.lt_of_le_of_lt (cs_len hd) (tot300 o.tot)
      refine ⟨_, rfl, ds.length, 0, rfl, rfl, _, rfl, ite2 (fun h0 => ?_) (fun h0 => ?_)⟩
      · have h0' : 0 < ds.length := of_decide_eq_true h0
        refine ⟨_, rfl, ds.length, 1, rfl, rfl, h0', _, rfl, _, rfl, a, ds.length, rfl, hs2, h0', dl, fun H3 d m3 hs3 hd3 => ⟨z2, fun p np => ?_⟩⟩
        obtain ⟨ays2, hays2⟩ := hs2.lst
        have hl3 := hl2.mod hha hays2 m3
        have s4 : Same H3 (upd H3 p (.lst [vN (ds.length - 1), vN d])) := Same.new np
        have pa : p ≠ a := by
          rintro rfl
          obtain ⟨ys, hy⟩ := hs3.lst
          rw [np] at hy; cases hy
        refine ⟨_, rfl, a, 2, rfl, hs3.same s4, by decide, by decide, fun H5 e m5 hs5 he => ?_⟩
        have hp5 : H5 p = some (.lst [vN (ds.length - 1), vN d]) := m5 _ _ pa upd_same
        obtain ⟨ays4, hays4⟩ := (hs3.same s4).lst
        have hl5 := (hl3.same s4).mod hha hays4 m5
        have mH5 := ((mH2.trans m3).trans (Mod.of_same s4)).trans m5
        obtain ⟨nn, hnn, en⟩ : ∃ nn, nn < ds.length ∧ ([vN (ds.length - 1), vN d] : List V)[e]? = some (vN nn) := by
          have : e = 0 ∨ e = 1 := by omega
          rcases this with rfl | rfl
          · exact ⟨ds.length - 1, by omega, rfl⟩
          · exact ⟨d, hd3, rfl⟩
        refine ⟨p, _, _, _, rfl, rfl, SqL.h hp5, atI_nat en, ?_⟩
        refine ⟨_, rfl, _, rfl, h, U, M, ds, nn, rfl, hl5, o, hd, hnn, fun H6 s6 => ?_, fun H6 p6 es s6 np6 hes h6 => ?_⟩
        · refine ⟨true, He.exm_ok (T.fact 138 (f := .exm "NoMove" "NoMove" true) rfl), fun _ a0 _ => ?_, fun q => Bool.noConfusion q⟩
          exact ⟨mH5.trans (Mod.of_same s6), hs5.same s6, _, _, _, h, ds, rfl, hha, hl5.same s6, hd⟩
        · have p6a : p6 ≠ a := by
            rintro rfl
            obtain ⟨ys, hy⟩ := hs5.lst
            rw [np6] at hy; cases hy
          exact ⟨mH5.trans (Mod.of_same s6), hs5.same s6, _, _, _, p6, es, rfl, p6a, h6, hes⟩
      · exact ⟨mH2, hs2, _, _, _, h, ds, rfl, hha, hl2, hd⟩
    · rintro σ H' ⟨mH, hsH, v2, v3, v4, h, ds, rfl, hha, hl, hd⟩
      exact ⟨_, rfl, k H' h ds mH hsH hha hd hl⟩
end
end Sl


end
section
set_option Elab.async false
set_option linter.all false
set_option maxRecDepth 100000
set_option maxHeartbeats 4000000
namespace Sl
open PySem PySem.Spec PyProof.Rows L2
/-! ### drawn facts -/
theorem maxSub (n d : Nat) : V.int (if ((n : Int) - (d : Int)) > (0 : Int) then ((n : Int) - (d : Int)) else (0 : Int)) = vN (n - d) := by
  by_cases h : d < n
  · rw [if_pos (by omega)]; exact congrArg V.int (by omega)
  · rw [if_neg (by omega)]; exact congrArg V.int (by omega)
def opF : Fact → Option Fact
  | .least _ 0 => none
  | .least p (k + 1) => some (.most p k)
  | .most p l => if l < 200 then some (.least p (l + 1)) else none
  | .start p => some (.inside p)
  | .inside p => some (.start p)
theorem opF_ok {U : List Un} {f g : Fact} (h : opF f = some g) (o : FOk U f) : FOk U g ∧ Opp (bdF U f) (bdF U g) := by
  cases f with
  | least p l =>
    cases l with
    | zero => cases h
    | succ k =>
      cases h
      exact ⟨⟨o.1, by have : k + 1 ≤ 200 := o.2; show k ≤ 200; omega⟩, .low p k⟩
  | most p l =>
    have h : (if l < 200 then some (Fact.least p (l + 1)) else none) = some g := h
    by_cases hl : l < 200
    · rw [if_pos hl] at h
      cases h
      exact ⟨⟨o.1, by show l + 1 ≤ 200; omega⟩, .up p l⟩
    · rw [if_neg hl] at h; cases h
  | start p =>
    cases h
    refine ⟨⟨o.1, trivial⟩, ?_⟩
    show Opp ((il U p).map fun v => (false, p, v)) (some (true, p, match il U p with | none => 201 | some v => v + 1))
    cases il U p with
    | none => exact .no p
    | some v => exact .up p v
  | inside p =>
    cases h
    refine ⟨⟨o.1, trivial⟩, ?_⟩
    show Opp (some (true, p, match il U p with | none => 201 | some v => v + 1)) ((il U p).map fun v => (false, p, v))
    cases il U p with
    | none => exact .ins p
    | some v => exact .low p v
theorem opF_none {U : List Un} {M : Nat} {f : Fact} {ls : List Nat} (h : opF f = none) (o : FOk U f) (hM : M ≤ 200) (hl : Hl U M ls) (hz : ls.length = tot U) : sat ls (bdF U f) = true := by
  cases f with
  | least p l =>
    cases l with
    | zero => exact decide_eq_true (p := 0 ≤ lev ls p) (Nat.zero_le _)
    | succ k => cases h
  | most p l =>
    have h : (if l < 200 then some (Fact.least p (l + 1)) else none) = none := h
    by_cases h2 : l < 200
    · rw [if_pos h2] at h; cases h
    · have hp : p < tot U := o.1
      have := lev_le (by rw [hz]; exact hp) hl.le
      exact decide_eq_true (show lev ls p ≤ l by omega)
  | start p => cases h
  | inside p => cases h
section
variable {P : Program} {w : World} {K : PySem.W.Frag} {mg : Str → Option Value} {base : Heap}
def sp__law_true_fact : Sp := fun vs H Q _ => ∃ (a h : Addr) (U : List Un) (M : Nat) (cs : List Ch) (p : Nat), vs = [.ref a, .ref h, vN p] ∧ SV H a ∧ h ≠ a ∧ LT H h (enB (rn yes cs)) ∧ UB U ∧ HB U M cs ∧ p < tot U ∧ ∀ H' t f, Mod a H H' → SV H' a → H' t = some (.tup (rowF f)) → FOk U f → sat (lvs cs) (bdF U f) = true → Q (.ref t) H'
abbrev n__law_true_fact : List Str := ["_law_stream_here", "_law_history", "_law_position", "_law_number", "_law_symbol", "_law_level", "_law_start", "_law_size", "_law_kind"]
theorem sc__law_true_fact : FnScope n__law_true_fact ["_law_stream_here", "_law_history", "_law_position"] (defScope s__law_true_fact) := ⟨rfl, rfl, rfl, by decide +kernel, rfl, by decide +kernel, by decide +kernel⟩
theorem ok__law_true_fact (T : Txt K mg) : Cl P w K mg base CX0 "_law_true_fact" ["_law_stream_here", "_law_history", "_law_position"] 8 [] sp__law_true_fact := by
  obtain ⟨fd, F⟩ := T.def_ 83 (d := d__law_true_fact) rfl
  have C_character_at := ok_character_at (P := P) (w := w) (base := base) T
  have C__law_draw := ok__law_draw (P := P) (w := w) (base := base) T
  refine cl_ok F (T.glo 66) (fun _ _ _ _ _ _ us hl => match us, hl with | [_, _, _], _ => rfl) sc__law_true_fact (fun vs H Q E h => ?_) (fun cdv A outer s H vs Q E hr h => ?_)
  · obtain ⟨a, hh, U, M, cs, p, rfl, _⟩ := h
    rfl
  · obtain ⟨a, hh, U, M, cs, p, rfl, hs, ha, hl, o, hc, hp, k⟩ := h
    refine ⟨_, (pss_cons (ps_asg (pe_cl C_character_at (hr.mono (by decide)) (pa_cons (pv 1) (pa_cons (pv 2) pa_nil))) (pg_tup rfl (pgs_cons (pg_name (i := 3) sc__law_true_fact.nd rfl (Or.inl rfl)) (pgs_cons (pg_name (i := 4) sc__law_true_fact.nd rfl (Or.inl rfl)) (pgs_cons (pg_name (i := 5) sc__law_true_fact.nd rfl (Or.inl rfl)) (pgs_cons (pg_name (i := 6) sc__law_true_fact.nd rfl (Or.inl rfl)) (pgs_cons (pg_name (i := 7) sc__law_true_fact.nd rfl (Or.inl rfl)) pgs_nil)))))))
      (pss_cons (ps_set (i := 8) sc__law_true_fact.nd rfl (Or.inl rfl) (pe_cl C__law_draw (hr.mono (by decide)) (pa_cons (pv 0) (pa_cons pe_int pa_nil))))
      (pss_cons (ps_if (pt_cmpR oEq (pv 8) pe_int (nomark _))
        (pss_one (ps_ret (pe_tup (pa_cons pe_str (pa_cons (pv 2) (pa_cons (pe_callB (call_max2 rfl) (by rfl) (T.free 94) bt_max (pa_cons pe_int (pa_cons (pe_op op_sub (pv 5) (pe_cl C__law_draw (hr.mono (by decide)) (pa_cons (pv 0) (pa_cons pe_int pa_nil)))) pa_nil))) pa_nil))))))
        pss_nil)
      (pss_cons (ps_if (pt_cmpR oEq (pv 8) pe_int (nomark _))
        (pss_one (ps_ret (pe_tup (pa_cons pe_str (pa_cons (pv 2) (pa_cons (pe_callB (call_min2 rfl) (by rfl) (T.free 95) bt_min (pa_cons pe_int (pa_cons (pe_op oAdd (pv 5) (pe_cl C__law_draw (hr.mono (by decide)) (pa_cons (pv 0) (pa_cons pe_int pa_nil)))) pa_nil))) pa_nil))))))
        pss_nil)
      (pss_one (ps_ret (pe_ifExp (pt_cmpR oEq (pv 6) (pv 2) (nomark _)) (pe_tup (pa_cons pe_str (pa_cons (pv 2) pa_nil))) (pe_tup (pa_cons pe_str (pa_cons (pv 2) pa_nil)))))))))), ?_⟩
    obtain ⟨t, et, -⟩ := cAt_some (cs := cs) (n := 0) (st := 0) (p := p) (Nat.zero_le _) (by rw [hc.tot]; omega)
    obtain ⟨e1, e2⟩ := hc.hc.starts hp et
    have lv : t.2.2.1 ≤ 200 := by rw [e1]; exact Nat.le_trans (lev_le (by rw [hc.tot]; exact hp) hc.hc.le) hc.e
    refine ⟨_, rfl, _, rfl, hh, U, M, cs, p, t, rfl, hl, o, hc, hp, et, fun H1 q s1 nq hq => ?_⟩
    obtain ⟨tn, ts, tl, tst, tz⟩ := t
    dsimp only at e1 e2 lv
    refine ⟨q, _, rfl, SqT.h hq, rfl, _, _, rfl, _, _, rfl, _, _, rfl, _, _, rfl, _, _, rfl, rfl, ?_⟩
    refine ⟨_, rfl, a, 3, rfl, hs.same s1, by decide, by decide, fun H2 d m2 hs2 hd => ?_⟩
    have m02 := (Mod.of_same s1).trans m2
    refine ⟨_, rfl, d, 0, rfl, rfl, _, rfl, ite2 (fun h0 => ?_) (fun h0 => ?_)⟩
    · refine ⟨_, rfl, _, rfl, _, rfl, a, 2, rfl, hs2, by decide, by decide, fun H3 e m3 hs3 he => ?_⟩
      refine ⟨tl, e, rfl, rfl, 0, _, rfl, ?_⟩
      rw [maxSub]
      refine ⟨z3, fun u nu => ?_⟩
      refine k _ u (.least p (tl - e)) ((m02.trans m3).trans (Mod.of_same (Same.new nu))) (hs3.same (Same.new nu)) upd_same ⟨hp, show tl - e ≤ 200 by omega⟩ (decide_eq_true ?_)
      rw [← e1]; omega
    · refine ⟨_, rfl, d, 1, rfl, rfl, _, rfl, ite2 (fun h1 => ?_) (fun h1 => ?_)⟩
      · refine ⟨_, rfl, _, rfl, _, rfl, a, 2, rfl, hs2, by decide, by decide, fun H3 e m3 hs3 he => ?_⟩
        refine ⟨tl, e, rfl, rfl, 200, (tl + e : Nat), rfl, ?_⟩
        rw [show V.int (if ((tl + e : Nat) : Int) < (200 : Int) then ((tl + e : Nat) : Int) else (200 : Int)) = vN (min 200 (tl + e)) from minV 200 (tl + e)]
        refine ⟨z3, fun u nu => ?_⟩
        refine k _ u (.most p (min 200 (tl + e))) ((m02.trans m3).trans (Mod.of_same (Same.new nu))) (hs3.same (Same.new nu)) upd_same ⟨hp, show min 200 (tl + e) ≤ 200 by omega⟩ (decide_eq_true ?_)
        rw [← e1]; omega
      · refine ⟨_, rfl, _, rfl, tst, p, rfl, rfl, _, rfl, ite2 (fun h2 => ?_) (fun h2 => ?_)⟩
        · refine ⟨_, rfl, z2, fun u nu => ?_⟩
          refine k _ u (.start p) (m02.trans (Mod.of_same (Same.new nu))) (hs2.same (Same.new nu)) upd_same ⟨hp, trivial⟩ ?_
          have h2 : tst = p := of_decide_eq_true h2
          show sat (lvs cs) ((il U p).map fun v => (false, p, v)) = true
          cases ei : il U p with
          | none => rfl
          | some v =>
            rw [ei] at e2
            exact decide_eq_true (e2.mp h2)
        · refine ⟨_, rfl, z2, fun u nu => ?_⟩
          refine k _ u (.inside p) (m02.trans (Mod.of_same (Same.new nu))) (hs2.same (Same.new nu)) upd_same ⟨hp, trivial⟩ ?_
          have h2 : ¬ tst = p := fun z => h2 (decide_eq_true z)
          show sat (lvs cs) (some (true, p, match il U p with | none => 201 | some v => v + 1)) = true
          cases ei : il U p with
          | none => rw [ei] at e2; exact absurd e2 h2
          | some v =>
            rw [ei] at e2
            have : ¬ lev (lvs cs) p ≤ v := fun z => h2 (e2.mpr z)
            exact decide_eq_true (show v + 1 ≤ lev (lvs cs) p by omega)
def sp__law_any_fact : Sp := fun vs H Q _ => ∃ (a : Addr) (U : List Un) (p : Nat), vs = [.ref a, vN p] ∧ SV H a ∧ p < tot U ∧ ∀ H' t f, Mod a H H' → SV H' a → H' t = some (.tup (rowF f)) → FOk U f → Q (.ref t) H'
abbrev n__law_any_fact : List Str := ["_law_stream_here", "_law_position", "_law_kind"]
theorem sc__law_any_fact : FnScope n__law_any_fact ["_law_stream_here", "_law_position"] (defScope s__law_any_fact) := ⟨rfl, rfl, rfl, by decide +kernel, rfl, by decide +kernel, by decide +kernel⟩
theorem ok__law_any_fact (T : Txt K mg) : Cl P w K mg base CX0 "_law_any_fact" ["_law_stream_here", "_law_position"] 2 [] sp__law_any_fact := by
  obtain ⟨fd, F⟩ := T.def_ 84 (d := d__law_any_fact) rfl
  have C__law_draw := ok__law_draw (P := P) (w := w) (base := base) T
  refine cl_ok F (T.glo 67) (fun _ _ _ _ _ _ us hl => match us, hl with | [_, _], _ => rfl) sc__law_any_fact (fun vs H Q E h => ?_) (fun cdv A outer s H vs Q E hr h => ?_)
  · obtain ⟨a, U, p, rfl, _⟩ := h
    rfl
  · obtain ⟨a, U, p, rfl, hs, hp, k⟩ := h
    refine ⟨_, (pss_cons (ps_set (i := 2) sc__law_any_fact.nd rfl (Or.inl rfl) (pe_cl C__law_draw (hr.mono (by decide)) (pa_cons (pv 0) (pa_cons pe_int pa_nil))))
      (pss_cons (ps_if (pt_cmpR oLt (pv 2) pe_int (nomark _))
        (pss_one (ps_ret (pe_tup (pa_cons (pe_ix (ix_listK K) (pe_lst (pa_cons pe_str (pa_cons pe_str pa_nil))) (pv 2) (fun _ _ => rfl)) (pa_cons (pv 1) (pa_cons (pe_cl C__law_draw (hr.mono (by decide)) (pa_cons (pv 0) (pa_cons pe_int pa_nil))) pa_nil))))))
        pss_nil)
      (pss_one (ps_ret (pe_tup (pa_cons (pe_ix (ix_listK K) (pe_lst (pa_cons pe_str (pa_cons pe_str pa_nil))) (pe_op oSub (pv 2) pe_int) (fun _ _ => rfl)) (pa_cons (pv 1) pa_nil))))))), ?_⟩
    refine ⟨_, rfl, a, 4, rfl, hs, by decide, by decide, fun H2 d m2 hs2 hd => ?_⟩
    refine ⟨_, rfl, d, 2, rfl, rfl, _, rfl, ite2 (fun h0 => ?_) (fun h0 => ?_)⟩
    · have h0 : d < 2 := of_decide_eq_true h0
      refine ⟨z2, fun l nl => ?_⟩
      have s3 : Same H2 (upd H2 l (.lst [.str sLe, .str sMo])) := Same.new nl
      have hd01 : d = 0 ∨ d = 1 := by omega
      rcases hd01 with rfl | rfl
      · refine ⟨_, rfl, l, _, _, _, rfl, rfl, SqL.h upd_same, atI_nat (j := 0) rfl, _, rfl, _, rfl, a, 5, rfl, hs2.same s3, by decide, by decide, fun H4 e m4 hs4 he => ⟨z3, fun u nu => ?_⟩⟩
        exact k _ u (.least p e) (((m2.trans (Mod.of_same s3)).trans m4).trans (Mod.of_same (Same.new nu))) (hs4.same (Same.new nu)) upd_same ⟨hp, show e ≤ 200 by omega⟩
      · refine ⟨_, rfl, l, _, _, _, rfl, rfl, SqL.h upd_same, atI_nat (j := 1) rfl, _, rfl, _, rfl, a, 5, rfl, hs2.same s3, by decide, by decide, fun H4 e m4 hs4 he => ⟨z3, fun u nu => ?_⟩⟩
        exact k _ u (.most p e) (((m2.trans (Mod.of_same s3)).trans m4).trans (Mod.of_same (Same.new nu))) (hs4.same (Same.new nu)) upd_same ⟨hp, show e ≤ 200 by omega⟩
    · have h0 : ¬ d < 2 := fun z => h0 (decide_eq_true z)
      refine ⟨z2, fun l nl => ?_⟩
      have s3 : Same H2 (upd H2 l (.lst [.str sSt, .str sIn])) := Same.new nl
      have hd01 : d = 2 ∨ d = 3 := by omega
      rcases hd01 with rfl | rfl
      · refine ⟨_, rfl, 2, 2, rfl, rfl, by decide, l, _, _, _, rfl, rfl, SqL.h upd_same, atI_nat (j := 0) rfl, _, rfl, z2, fun u nu => ?_⟩
        exact k _ u (.start p) ((m2.trans (Mod.of_same s3)).trans (Mod.of_same (Same.new nu))) ((hs2.same s3).same (Same.new nu)) upd_same ⟨hp, trivial⟩
      · refine ⟨_, rfl, 3, 2, rfl, rfl, by decide, l, _, _, _, rfl, rfl, SqL.h upd_same, atI_nat (j := 1) rfl, _, rfl, z2, fun u nu => ?_⟩
        exact k _ u (.inside p) ((m2.trans (Mod.of_same s3)).trans (Mod.of_same (Same.new nu))) ((hs2.same s3).same (Same.new nu)) upd_same ⟨hp, trivial⟩
def sp__law_opposite : Sp := fun vs H Q _ => ∃ (t : Addr) (f : Fact), vs = [.ref t] ∧ H t = some (.tup (rowF f)) ∧ match opF f with
  | none => ∀ H', Same H H' → Q .non H'
  | some g => ∀ H' u, Same H H' → H' u = some (.tup (rowF g)) → Q (.ref u) H'
abbrev n__law_opposite : List Str := ["_law_fact"]
theorem sc__law_opposite : FnScope n__law_opposite ["_law_fact"] (defScope s__law_opposite) := ⟨rfl, rfl, rfl, by decide +kernel, rfl, by decide +kernel, by decide +kernel⟩
theorem ok__law_opposite (T : Txt K mg) : Cl P w K mg base CX0 "_law_opposite" ["_law_fact"] 1 [] sp__law_opposite := by
  obtain ⟨fd, F⟩ := T.def_ 85 (d := d__law_opposite) rfl
  refine cl_ok F (T.glo 68) (fun _ _ _ _ _ _ us hl => match us, hl with | [_], _ => rfl) sc__law_opposite (fun vs H Q E h => ?_) (fun cdv A outer s H vs Q E hr h => ?_)
  · obtain ⟨t, f, rfl, _⟩ := h
    rfl
  · obtain ⟨t, f, rfl, ht, k⟩ := h
    refine ⟨_, (pss_cons (ps_if (pt_cmpR oEqS (pe_ix (ix_tupK K) (pv 0) pe_int (fun _ _ => rfl)) pe_str (nomark _))
        (pss_one (ps_ret (pe_tup (pa_cons pe_str (pa_cons (pe_ix (ix_tupK K) (pv 0) pe_int (fun _ _ => rfl)) pa_nil)))))
        pss_nil)
      (pss_cons (ps_if (pt_cmpR oEqS (pe_ix (ix_tupK K) (pv 0) pe_int (fun _ _ => rfl)) pe_str (nomark _))
        (pss_one (ps_ret (pe_tup (pa_cons pe_str (pa_cons (pe_ix (ix_tupK K) (pv 0) pe_int (fun _ _ => rfl)) pa_nil)))))
        pss_nil)
      (pss_cons (ps_if (pt_cmpR oEqS (pe_ix (ix_tupK K) (pv 0) pe_int (fun _ _ => rfl)) pe_str (nomark _))
        (pss_one (ps_ret (pe_ifExp (pt_cmpR oGt (pe_ix (ix_tupK K) (pv 0) pe_int (fun _ _ => rfl)) pe_int (nomark _)) (pe_tup (pa_cons pe_str (pa_cons (pe_ix (ix_tupK K) (pv 0) pe_int (fun _ _ => rfl)) (pa_cons (pe_op oSub (pe_ix (ix_tupK K) (pv 0) pe_int (fun _ _ => rfl)) pe_int) pa_nil)))) pe_non)))
        pss_nil)
      (pss_one (ps_ret (pe_ifExp (pt_cmpR oLt (pe_ix (ix_tupK K) (pv 0) pe_int (fun _ _ => rfl)) pe_int (nomark _)) (pe_tup (pa_cons pe_str (pa_cons (pe_ix (ix_tupK K) (pv 0) pe_int (fun _ _ => rfl)) (pa_cons (pe_op oAdd (pe_ix (ix_tupK K) (pv 0) pe_int (fun _ _ => rfl)) pe_int) pa_nil)))) pe_non)))))), ?_⟩
    cases f with
    | least p l =>
      have ht : H t = some (.tup [.str sLe, vN p, vN l]) := ht
      refine ⟨_, rfl, t, _, _, _, rfl, rfl, SqT.h ht, atI_nat (j := 0) rfl, sLe, sSt, rfl, rfl, false, rfl, iteF ?_⟩
      refine ⟨_, rfl, t, _, _, _, rfl, rfl, SqT.h ht, atI_nat (j := 0) rfl, sLe, sIn, rfl, rfl, false, rfl, iteF ?_⟩
      refine ⟨_, rfl, t, _, _, _, rfl, rfl, SqT.h ht, atI_nat (j := 0) rfl, sLe, sLe, rfl, rfl, true, rfl, iteT ?_⟩
      refine ⟨_, rfl, t, _, _, _, rfl, rfl, SqT.h ht, atI_nat (j := 2) rfl, l, 0, rfl, rfl, ?_⟩
      cases l with
      | zero =>
        refine ⟨false, rfl, iteF ?_⟩
        exact k _ (Same.refl _)
      | succ l =>
        refine ⟨true, rfl, iteT ?_⟩
        refine ⟨_, rfl, t, _, _, _, rfl, rfl, SqT.h ht, atI_nat (j := 1) rfl, _, rfl, t, _, _, _, rfl, rfl, SqT.h ht, atI_nat (j := 2) rfl, l + 1, 1, rfl, rfl, by omega, z3, fun u nu => ?_⟩
        exact k _ u (Same.new nu) upd_same
    | most p l =>
      have ht : H t = some (.tup [.str sMo, vN p, vN l]) := ht
      refine ⟨_, rfl, t, _, _, _, rfl, rfl, SqT.h ht, atI_nat (j := 0) rfl, sMo, sSt, rfl, rfl, false, rfl, iteF ?_⟩
      refine ⟨_, rfl, t, _, _, _, rfl, rfl, SqT.h ht, atI_nat (j := 0) rfl, sMo, sIn, rfl, rfl, false, rfl, iteF ?_⟩
      refine ⟨_, rfl, t, _, _, _, rfl, rfl, SqT.h ht, atI_nat (j := 0) rfl, sMo, sLe, rfl, rfl, false, rfl, iteF ?_⟩
      refine ⟨_, rfl, t, _, _, _, rfl, rfl, SqT.h ht, atI_nat (j := 2) rfl, l, 200, rfl, rfl, ?_⟩
      have k : match (if l < 200 then some (Fact.least p (l + 1)) else none) with
        | none => ∀ H', Same H H' → Q .non H'
        | some g => ∀ H' u, Same H H' → H' u = some (.tup (rowF g)) → Q (.ref u) H' := k
      by_cases hl : l < 200
      · rw [if_pos hl] at k
        refine ⟨true, congrArg V.bl (decide_eq_true hl), iteT ?_⟩
        refine ⟨_, rfl, t, _, _, _, rfl, rfl, SqT.h ht, atI_nat (j := 1) rfl, _, rfl, t, _, _, _, rfl, rfl, SqT.h ht, atI_nat (j := 2) rfl, l, 1, rfl, rfl, z3, fun u nu => ?_⟩
        exact k _ u (Same.new nu) upd_same
      · rw [if_neg hl] at k
        refine ⟨false, congrArg V.bl (decide_eq_false hl), iteF ?_⟩
        exact k _ (Same.refl _)
    | start p =>
      have ht : H t = some (.tup [.str sSt, vN p]) := ht
      refine ⟨_, rfl, t, _, _, _, rfl, rfl, SqT.h ht, atI_nat (j := 0) rfl, sSt, sSt, rfl, rfl, true, rfl, iteT ?_⟩
      refine ⟨_, rfl, t, _, _, _, rfl, rfl, SqT.h ht, atI_nat (j := 1) rfl, z2, fun u nu => ?_⟩
      exact k _ u (Same.new nu) upd_same
    | inside p =>
      have ht : H t = some (.tup [.str sIn, vN p]) := ht
      refine ⟨_, rfl, t, _, _, _, rfl, rfl, SqT.h ht, atI_nat (j := 0) rfl, sIn, sSt, rfl, rfl, false, rfl, iteF ?_⟩
      refine ⟨_, rfl, t, _, _, _, rfl, rfl, SqT.h ht, atI_nat (j := 0) rfl, sIn, sIn, rfl, rfl, true, rfl, iteT ?_⟩
      refine ⟨_, rfl, t, _, _, _, rfl, rfl, SqT.h ht, atI_nat (j := 1) rfl, z2, fun u nu => ?_⟩
      exact k _ u (Same.new nu) upd_same
end
end Sl


end
section
set_option Elab.async false
set_option linter.all false
set_option maxRecDepth 100000
set_option maxHeartbeats 4000000
namespace Sl
open PySem PySem.Spec PyProof.Rows L2
/-! ### what the law asks of consistent facts -/
theorem rowF_ok {f : Fact} : (rowF f).all okV = true := by
  have h1 : PyData.strOk sLe = true := by decide +kernel
  have h2 : PyData.strOk sMo = true := by decide +kernel
  have h3 : PyData.strOk sSt = true := by decide +kernel
  have h4 : PyData.strOk sIn = true := by decide +kernel
  cases f with
  | least p l => show (PyData.strOk sLe && true) = true; rw [h1]; rfl
  | most p l => show (PyData.strOk sMo && true) = true; rw [h2]; rfl
  | start p => show (PyData.strOk sSt && true) = true; rw [h3]; rfl
  | inside p => show (PyData.strOk sIn && true) = true; rw [h4]; rfl
theorem rowsF_ok {fs : List Fact} : ∀ r ∈ fs.map rowF, r.all okV = true := fun r hr => by
  obtain ⟨f, _, rfl⟩ := List.mem_map.mp hr
  exact rowF_ok
theorem all_sat {ls : List Nat} {bs : List Bd} (h : ∀ b ∈ bs, sat ls b = true) : bs.all (sat ls) = true := List.all_eq_true.mpr h
theorem cs_at {U : List Un} {M : Nat} {cs : List Ch} (h : HB U M cs) {p : Nat} (hp : p < tot U) : ∃ t, cAt 0 0 cs p = some t ∧ t.2.2.1 = lev (lvs cs) p := by
  obtain ⟨t, et, -⟩ := cAt_some (cs := cs) (n := 0) (st := 0) (p := p) (Nat.zero_le _) (by rw [h.tot]; omega)
  exact ⟨t, et, (h.hc.starts hp et).1⟩
/-- a history that a fact list may be asked about -/
def HV (H : Hp) (hv : V) (U : List Un) (M : Nat) (fs : List Fact) : Prop := hv = .non ∨ ∃ h cs, hv = .ref h ∧ LT H h (enB (rn yes cs)) ∧ HB U M cs ∧ ∀ b ∈ bdFs U fs, sat (lvs cs) b = true
theorem HV.same {H H' : Hp} {hv : V} {U : List Un} {M : Nat} {fs : List Fact} (h : HV H hv U M fs) (s : Same H H') : HV H' hv U M fs := by
  rcases h with h | ⟨x, cs, e, l, o, z⟩
  · exact .inl h
  · exact .inr ⟨x, cs, e, l.same s, o, z⟩
section
variable {P : Program} {w : World} {K : PySem.W.Frag} {mg : Str → Option Value} {base : Heap}
def sp__law_consistent_holds : Sp := fun vs H Q _ => ∃ (a q b ta : Addr) (hv : V) (U : List Un) (M : Nat) (fs : List Fact), vs = [.ref a, .ref q, .ref b, hv] ∧ H q = some (.tup [.ref ta, vN M]) ∧ SV H a ∧ ta ≠ a ∧ b ≠ a ∧ LT H ta (enR (rnT U)) ∧ FL H b fs ∧ AQ U M fs ∧ ctr U M (bdFs U fs) = none ∧ 0 < tot U ∧ HV H hv U M fs ∧ ∀ H', Mod a H H' → SV H' a → Q (.bl true) H'
abbrev n__law_consistent_holds : List Str := ["_law_stream_here", "_law_asked", "_law_facts", "_law_history", "_law_text_here", "_law_escapes", "_law_high", "_law_low", "_law_position", "_law_limits"]
theorem sc__law_consistent_holds : FnScope n__law_consistent_holds ["_law_stream_here", "_law_asked", "_law_facts", "_law_history"] (defScope s__law_consistent_holds) := ⟨rfl, rfl, rfl, by decide +kernel, rfl, by decide +kernel, by decide +kernel⟩
theorem ok__law_consistent_holds (T : Txt K mg) : Cl P w K mg base CX0 "_law_consistent_holds" ["_law_stream_here", "_law_asked", "_law_facts", "_law_history"] 12 [] sp__law_consistent_holds := by
  obtain ⟨fd, F⟩ := T.def_ 86 (d := d__law_consistent_holds) rfl
  have C_contradiction := ok_contradiction (P := P) (w := w) (base := base) T
  have C_greatest_with := ok_greatest_with (P := P) (w := w) (base := base) T
  have C_least_with := ok_least_with (P := P) (w := w) (base := base) T
  have C_is_below := ok_is_below (P := P) (w := w) (base := base) T
  have C_satisfies := ok_satisfies (P := P) (w := w) (base := base) T
  have C__law_draw := ok__law_draw (P := P) (w := w) (base := base) T
  have C_length_of := ok_length_of (P := P) (w := w) (base := base) T
  have C_character_at := ok_character_at (P := P) (w := w) (base := base) T
  have C_level_range := ok_level_range (P := P) (w := w) (base := base) T
  have C_greatest_level := ok_greatest_level (P := P) (w := w) (base := base) T
  refine cl_ok F (T.glo 69) (fun _ _ _ _ _ _ us hl => match us, hl with | [_, _, _, _], _ => rfl) sc__law_consistent_holds (fun vs H Q E h => ?_) (fun cdv A outer s H vs Q E hr h => ?_)
  · obtain ⟨a, q, b, ta, hv, U, M, fs, rfl, _⟩ := h
    rfl
  · obtain ⟨a, q, b, ta, hv, U, M, fs, rfl, hq, hs, na, nb, hta, hb, aq, e, t0, hhv, k⟩ := h
    refine ⟨_, (pss_cons (ps_asg (pv 1) (pg_tup rfl (pgs_cons (pg_name (i := 4) sc__law_consistent_holds.nd rfl (Or.inl rfl)) (pgs_cons (pg_name (i := 5) sc__law_consistent_holds.nd rfl (Or.inl rfl)) pgs_nil))))
      (pss_cons (ps_if (pt_cmpR op_notN (pe_cl C_contradiction (hr.mono (by decide)) (pa_cons (pv 4) (pa_cons (pv 5) (pa_cons (pv 2) pa_nil)))) pe_non (nomark _))
        (pss_one (ps_ret pe_bl))
        pss_nil)
      (pss_cons (ps_set (i := 6) sc__law_consistent_holds.nd rfl (Or.inl rfl) (pe_clX C_greatest_with (hr.mono (by decide)) (pa_cons (pv 4) (pa_cons (pv 5) (pa_cons (pv 2) pa_nil)))))
      (pss_cons (ps_set (i := 7) sc__law_consistent_holds.nd rfl (Or.inl rfl) (pe_cl C_least_with (hr.mono (by decide)) (pa_cons (pv 4) (pa_cons (pv 5) (pa_cons (pv 2) pa_nil)))))
      (pss_cons (ps_if (PW.pt (pw_or (pt_not (pt_val (pe_cl C_satisfies (hr.mono (by decide)) (pa_cons (pv 4) (pa_cons (pv 5) (pa_cons (pv 2) (pa_cons (pv 6) pa_nil))))))) (pw_or (pt_not (pt_val (pe_cl C_satisfies (hr.mono (by decide)) (pa_cons (pv 4) (pa_cons (pv 5) (pa_cons (pv 2) (pa_cons (pv 7) pa_nil))))))) (pw_or1 (pt_not (pt_val (pe_cl C_is_below (hr.mono (by decide)) (pa_cons (pv 7) (pa_cons (pv 6) pa_nil)))))))))
        (pss_one (ps_ret pe_bl))
        pss_nil)
      (pss_cons (ps_if (PW.pt (pw_and (pt_cmpR op_notN (pv 3) pe_non (nomark _)) (pw_and1 (PW.pt (pw_or (pt_not (pt_val (pe_cl C_is_below (hr.mono (by decide)) (pa_cons (pv 7) (pa_cons (pv 3) pa_nil))))) (pw_or1 (pt_not (pt_val (pe_cl C_is_below (hr.mono (by decide)) (pa_cons (pv 3) (pa_cons (pv 6) pa_nil)))))))))))
        (pss_one (ps_ret pe_bl))
        pss_nil)
      (pss_cons (ps_set (i := 8) sc__law_consistent_holds.nd rfl (Or.inl rfl) (pe_cl C__law_draw (hr.mono (by decide)) (pa_cons (pv 0) (pa_cons (pe_cl C_length_of (hr.mono (by decide)) (pa_cons (pv 4) pa_nil)) pa_nil))))
      (pss_cons (ps_set (i := 9) sc__law_consistent_holds.nd rfl (Or.inl rfl) (pe_tup (pa_cons (pe_ix (ix_tupK K) (pe_cl C_character_at (hr.mono (by decide)) (pa_cons (pv 7) (pa_cons (pv 8) pa_nil))) pe_int (fun _ _ => rfl)) (pa_cons (pe_ix (ix_tupK K) (pe_cl C_character_at (hr.mono (by decide)) (pa_cons (pv 6) (pa_cons (pv 8) pa_nil))) pe_int (fun _ _ => rfl)) pa_nil))))
      (pss_cons (ps_if (pt_cmpR (op_neDK K hr.units) (pe_cl C_level_range (hr.mono (by decide)) (pa_cons (pv 4) (pa_cons (pv 5) (pa_cons (pv 2) (pa_cons (pv 8) pa_nil))))) (pv 9) (nomark _))
        (pss_one (ps_ret pe_bl))
        pss_nil)
      (pss_one (ps_ret (pe_or (pe_cmpR (op_neDK K hr.units) (pv 2) (pe_lst pa_nil) (nomark _)) (pe_one (pe_cmpR (op_eqDK K hr.units) (pv 9) (pe_tup (pa_cons pe_int (pa_cons (pe_cl C_greatest_level (hr.mono (by decide)) (pa_cons (pv 4) (pa_cons (pv 5) (pa_cons (pv 8) pa_nil)))) pa_nil))) (nomark _))))))))))))))), ?_⟩
    have c := (ctr_none aq.bd).mp e
    have hl := hc_bwu aq.o.wu (c.lowHl aq.uok)
    have hu := hc_bwu aq.o.wu (upHl (E := M) (bs := bdFs U fs) aq.uok)
    have hBl : HB U M _ := ⟨hl.1, aq.e⟩
    have hBu : HB U M _ := ⟨hu.1, aq.e⟩
    have el := hl.2
    have eu := hu.2
    refine ⟨_, rfl, q, _, rfl, SqT.h hq, rfl, _, _, rfl, _, _, rfl, rfl, ?_⟩
    refine ⟨_, rfl, _, rfl, _, rfl, ta, b, U, M, fs, rfl, hta, hb, aq, ?_⟩
    rw [e]
    intro H1 s1
    refine ⟨rfl, false, rfl, iteF ?_⟩
    refine ⟨_, rfl, _, rfl, _, rfl, ta, b, U, M, fs, rfl, hta.same s1, hb.same s1, aq, ?_⟩
    rw [e]
    intro H2 ph s2 nph hph
    refine ⟨_, rfl, _, rfl, _, rfl, ta, b, U, M, fs, rfl, hta.same (s1.trans s2), hb.same (s1.trans s2), aq, e, fun H3 pl s3 npl hpl => ?_⟩
    have S3 := (s1.trans s2).trans s3
    refine ⟨_, rfl, _, rfl, _, rfl, _, rfl, ta, b, ph, U, M, fs, _, rfl, hta.same S3, hb.same S3, hph.same s3, aq, hBu, fun H4 s4 => ?_⟩
    refine ⟨true, congrArg V.bl (all_sat (by rw [eu]; exact c.up_sat aq.uok)), iteF ?_⟩
    refine ⟨_, rfl, _, rfl, _, rfl, _, rfl, ta, b, pl, U, M, fs, _, rfl, hta.same (S3.trans s4), hb.same (S3.trans s4), hpl.same s4, aq, hBl, fun H5 s5 => ?_⟩
    refine ⟨true, congrArg V.bl (all_sat (by rw [el]; exact c.low_sat aq.uok)), iteF ?_⟩
    refine ⟨_, rfl, _, rfl, pl, ph, U, M, _, _, rfl, hpl.same (s4.trans s5), hph.same (s3.trans (s4.trans s5)), aq.o, hBl, hBu, fun p hp => by rw [el, eu]; exact c.low_up aq.uok hp, fun H6 s6 => ?_⟩
    refine ⟨true, rfl, ?_⟩
    have hhv6 := hhv.same ((S3.trans (s4.trans s5)).trans s6)
    rcases hhv6 with hx | ⟨x, cs, hx, hxl, hxB, hxs⟩
    · subst hx
      refine iteF ⟨_, rfl, rfl, false, rfl, iteF ?_⟩
      have sx : Same H6 H6 := Same.refl _
      have S15 := (s1.trans s2).trans (s3.trans (s4.trans (s5.trans s6)))
      refine ⟨_, rfl, _, rfl, ta, _, rfl, hta.same (S15.trans sx), aq.o.rnok, by have := aq.o.run; omega, fun H7 s7 => ?_⟩
      have S7 := (S15.trans sx).trans s7
      refine ⟨a, Sl.tsz (rnT U), rfl, hs.same S7, by rw [aq.o.tsz]; omega, by rw [aq.o.tsz]; exact tot300 aq.o.tot, fun H8 p m8 hs8 hp => ?_⟩
      rw [aq.o.tsz] at hp
      obtain ⟨ays, hays⟩ := (hs.same S7).lst
      have pla : pl ≠ a := by
        rintro rfl
        obtain ⟨ys, hy⟩ := (hs.same (s1.trans s2)).lst
        rw [npl] at hy; cases hy
      have pha : ph ≠ a := by
        rintro rfl
        obtain ⟨ys, hy⟩ := (hs.same s1).lst
        rw [nph] at hy; cases hy
      have hlo8 := (hpl.same ((s4.trans (s5.trans s6)).trans (sx.trans s7))).mod pla hays m8
      have hup8 := (hph.same ((s3.trans (s4.trans (s5.trans s6))).trans (sx.trans s7))).mod pha hays m8
      have hta8 := (hta.same S7).mod na hays m8
      have hb8 := (hb.same S7).mod nb hays m8
      obtain ⟨tl, etl, ltl⟩ := cs_at hBl hp
      obtain ⟨tu, etu, ltu⟩ := cs_at hBu hp
      rw [el] at ltl
      rw [eu] at ltu
      refine ⟨_, rfl, _, rfl, pl, U, M, _, p, tl, rfl, hlo8, aq.o, hBl, hp, etl, fun H9 q9 s9 nq9 hq9 => ?_⟩
      refine ⟨q9, _, _, _, rfl, rfl, SqT.h hq9, atI_nat (j := 2) rfl, ?_⟩
      refine ⟨_, rfl, _, rfl, ph, U, M, _, p, tu, rfl, hup8.same s9, aq.o, hBu, hp, etu, fun H10 q10 s10 nq10 hq10 => ?_⟩
      refine ⟨q10, _, _, _, rfl, rfl, SqT.h hq10, atI_nat (j := 2) rfl, z2, fun u nu => ?_⟩
      rw [ltl, ltu]
      have s11 : Same H10 (upd H10 u (.tup [vN (lev (lowLs U M (bdFs U fs)) p), vN (lev (upLs U M (bdFs U fs)) p)])) := Same.new nu
      have S11 := (s9.trans s10).trans s11
      have hu11 : upd H10 u (.tup [vN (lev (lowLs U M (bdFs U fs)) p), vN (lev (upLs U M (bdFs U fs)) p)]) u = some (.tup [vN (lev (lowLs U M (bdFs U fs)) p), vN (lev (upLs U M (bdFs U fs)) p)]) := upd_same
      refine ⟨_, rfl, _, rfl, _, rfl, _, rfl, ta, b, U, M, fs, p, rfl, hta8.same S11, hb8.same S11, aq, hp, e, fun H12 v s12 hv12 => ?_⟩
      have hu12 := s12 _ _ hu11
      refine ⟨_, rfl, _, _, tup_dp hv12 rfl, tup_dp hu12 rfl, shaped_tup rfl, shaped_tup rfl, false, congrArg V.bl (show (!PyData.eqvAll _ _) = false by rw [eqv_all rfl rfl, decide_eq_true rfl]; rfl), iteF ?_⟩
      have S12 := S11.trans s12
      refine ⟨_, rfl, z0, fun l nl => ?_⟩
      have s13 : Same H12 (upd H12 l (.lst [])) := Same.new nl
      have S13 := S12.trans s13
      have mm : Mod a H (upd H12 l (.lst [])) := ((Mod.of_same S7).trans m8).trans (Mod.of_same S13)
      refine ⟨_, _, (hb8.same S13).dpo rowsF_ok, (LT.nil upd_same).dpo (fun r hr => nomatch hr), shaped_rows rowsF_ok, shaped_rows (fun r hr => nomatch hr), !(fs.map rowF).isEmpty, congrArg (fun b => V.bl (!b)) eqv_E, ?_⟩
      cases fs with
      | cons f r => exact iteT (k _ mm (hs8.same S13))
      | nil =>
        refine iteF ?_
        have hu13 := s13 _ _ hu12
        refine ⟨_, rfl, _, rfl, _, rfl, _, rfl, ta, U, M, p, rfl, hta8.same S13, aq.o, aq.e, hp, fun H14 s14 => ⟨z2, fun x nx => ?_⟩⟩
        have s15 : Same H14 (upd H14 x (.tup [.int 0, vN (lev (lvs (gru M U)) p)])) := Same.new nx
        have hx : upd H14 x (.tup [.int 0, vN (lev (lvs (gru M U)) p)]) x = some (.tup [.int 0, vN (lev (lvs (gru M U)) p)]) := upd_same
        refine ⟨_, _, tup_dp ((s14.trans s15) _ _ hu13) rfl, tup_dp hx rfl, shaped_tup rfl, shaped_tup rfl, ?_⟩
        have eE : PyData.eqvAll (List.map pdV [vN (lev (lowLs U M (bdFs U [])) p), vN (lev (upLs U M (bdFs U [])) p)]) (List.map pdV [.int 0, vN (lev (lvs (gru M U)) p)]) = true := by
          rw [eqv_all rfl rfl, show bdFs U [] = [] from rfl, low_nil aq.uok hp, gru_up aq.o.wu hp]
          exact decide_eq_true rfl
        have kk := k _ ((mm.trans (Mod.of_same s14)).trans (Mod.of_same s15)) (((hs8.same S13).same s14).same s15)
        rw [← eE] at kk
        exact kk
    · subst hx
      refine iteF ⟨_, rfl, rfl, true, rfl, iteT ?_⟩
      refine ⟨_, rfl, _, rfl, pl, x, U, M, _, cs, rfl, hpl.same (s4.trans (s5.trans s6)), hxl, aq.o, hBl, hxB, fun p hp => by rw [el]; exact low_lev aq.uok c hxB.hc.hl hxs hp, fun H6a s6a => ?_⟩
      refine ⟨true, rfl, iteF ?_⟩
      refine ⟨_, rfl, _, rfl, x, ph, U, M, cs, _, rfl, hxl.same s6a, hph.same ((s3.trans (s4.trans (s5.trans s6))).trans s6a), aq.o, hxB, hBu, fun p hp => by rw [eu]; exact up_lev aq.uok c hxB.hc.hl hxs hp, fun H6b s6b => ?_⟩
      refine ⟨true, rfl, iteF ?_⟩
      have sx := s6a.trans s6b
      have S15 := (s1.trans s2).trans (s3.trans (s4.trans (s5.trans s6)))
      refine ⟨_, rfl, _, rfl, ta, _, rfl, hta.same (S15.trans sx), aq.o.rnok, by have := aq.o.run; omega, fun H7 s7 => ?_⟩
      have S7 := (S15.trans sx).trans s7
      refine ⟨a, Sl.tsz (rnT U), rfl, hs.same S7, by rw [aq.o.tsz]; omega, by rw [aq.o.tsz]; exact tot300 aq.o.tot, fun H8 p m8 hs8 hp => ?_⟩
      rw [aq.o.tsz] at hp
      obtain ⟨ays, hays⟩ := (hs.same S7).lst
      have pla : pl ≠ a := by
        rintro rfl
        obtain ⟨ys, hy⟩ := (hs.same (s1.trans s2)).lst
        rw [npl] at hy; cases hy
      have pha : ph ≠ a := by
        rintro rfl
        obtain ⟨ys, hy⟩ := (hs.same s1).lst
        rw [nph] at hy; cases hy
      have hlo8 := (hpl.same ((s4.trans (s5.trans s6)).trans (sx.trans s7))).mod pla hays m8
      have hup8 := (hph.same ((s3.trans (s4.trans (s5.trans s6))).trans (sx.trans s7))).mod pha hays m8
      have hta8 := (hta.same S7).mod na hays m8
      have hb8 := (hb.same S7).mod nb hays m8
      obtain ⟨tl, etl, ltl⟩ := cs_at hBl hp
      obtain ⟨tu, etu, ltu⟩ := cs_at hBu hp
      rw [el] at ltl
      rw [eu] at ltu
      refine ⟨_, rfl, _, rfl, pl, U, M, _, p, tl, rfl, hlo8, aq.o, hBl, hp, etl, fun H9 q9 s9 nq9 hq9 => ?_⟩
      refine ⟨q9, _, _, _, rfl, rfl, SqT.h hq9, atI_nat (j := 2) rfl, ?_⟩
      refine ⟨_, rfl, _, rfl, ph, U, M, _, p, tu, rfl, hup8.same s9, aq.o, hBu, hp, etu, fun H10 q10 s10 nq10 hq10 => ?_⟩
      refine ⟨q10, _, _, _, rfl, rfl, SqT.h hq10, atI_nat (j := 2) rfl, z2, fun u nu => ?_⟩
      rw [ltl, ltu]
      have s11 : Same H10 (upd H10 u (.tup [vN (lev (lowLs U M (bdFs U fs)) p), vN (lev (upLs U M (bdFs U fs)) p)])) := Same.new nu
      have S11 := (s9.trans s10).trans s11
      have hu11 : upd H10 u (.tup [vN (lev (lowLs U M (bdFs U fs)) p), vN (lev (upLs U M (bdFs U fs)) p)]) u = some (.tup [vN (lev (lowLs U M (bdFs U fs)) p), vN (lev (upLs U M (bdFs U fs)) p)]) := upd_same
      refine ⟨_, rfl, _, rfl, _, rfl, _, rfl, ta, b, U, M, fs, p, rfl, hta8.same S11, hb8.same S11, aq, hp, e, fun H12 v s12 hv12 => ?_⟩
      have hu12 := s12 _ _ hu11
      refine ⟨_, rfl, _, _, tup_dp hv12 rfl, tup_dp hu12 rfl, shaped_tup rfl, shaped_tup rfl, false, congrArg V.bl (show (!PyData.eqvAll _ _) = false by rw [eqv_all rfl rfl, decide_eq_true rfl]; rfl), iteF ?_⟩
      have S12 := S11.trans s12
      refine ⟨_, rfl, z0, fun l nl => ?_⟩
      have s13 : Same H12 (upd H12 l (.lst [])) := Same.new nl
      have S13 := S12.trans s13
      have mm : Mod a H (upd H12 l (.lst [])) := ((Mod.of_same S7).trans m8).trans (Mod.of_same S13)
      refine ⟨_, _, (hb8.same S13).dpo rowsF_ok, (LT.nil upd_same).dpo (fun r hr => nomatch hr), shaped_rows rowsF_ok, shaped_rows (fun r hr => nomatch hr), !(fs.map rowF).isEmpty, congrArg (fun b => V.bl (!b)) eqv_E, ?_⟩
      cases fs with
      | cons f r => exact iteT (k _ mm (hs8.same S13))
      | nil =>
        refine iteF ?_
        have hu13 := s13 _ _ hu12
        refine ⟨_, rfl, _, rfl, _, rfl, _, rfl, ta, U, M, p, rfl, hta8.same S13, aq.o, aq.e, hp, fun H14 s14 => ⟨z2, fun x nx => ?_⟩⟩
        have s15 : Same H14 (upd H14 x (.tup [.int 0, vN (lev (lvs (gru M U)) p)])) := Same.new nx
        have hx : upd H14 x (.tup [.int 0, vN (lev (lvs (gru M U)) p)]) x = some (.tup [.int 0, vN (lev (lvs (gru M U)) p)]) := upd_same
        refine ⟨_, _, tup_dp ((s14.trans s15) _ _ hu13) rfl, tup_dp hx rfl, shaped_tup rfl, shaped_tup rfl, ?_⟩
        have eE : PyData.eqvAll (List.map pdV [vN (lev (lowLs U M (bdFs U [])) p), vN (lev (upLs U M (bdFs U [])) p)]) (List.map pdV [.int 0, vN (lev (lvs (gru M U)) p)]) = true := by
          rw [eqv_all rfl rfl, show bdFs U [] = [] from rfl, low_nil aq.uok hp, gru_up aq.o.wu hp]
          exact decide_eq_true rfl
        have kk := k _ ((mm.trans (Mod.of_same s14)).trans (Mod.of_same s15)) (((hs8.same S13).same s14).same s15)
        rw [← eE] at kk
        exact kk
end
end Sl


end
section
set_option Elab.async false
set_option linter.all false
set_option maxRecDepth 100000
set_option maxHeartbeats 4000000
namespace Sl
open PySem PySem.Spec PyProof.Rows L2
/-! ### what the law asks of implied facts -/
theorem FL.snoc {H H' : Hp} {b p u : Addr} {fs : List Fact} {g : Fact} {xs : List V} (h : FL H b fs) (hx : H b = some (.lst xs)) (s : Same H H') (hp : H' p = some (.lst (xs ++ [.ref u]))) (hu : H' u = some (.tup (rowF g))) : FL H' p (fs ++ [g]) := by
  obtain ⟨ys, hy, hz⟩ := h.same s
  have hx' := s _ _ hx
  rw [hx'] at hy
  cases hy
  show LT H' p ((fs ++ [g]).map rowF)
  rw [List.map_append]
  exact ⟨_, hp, Paired.app hz (.cons ⟨u, rfl, hu⟩ .nil)⟩
theorem FL.one {H : Hp} {l t : Addr} {f : Fact} (hl : H l = some (.lst [.ref t])) (ht : H t = some (.tup (rowF f))) : FL H l [f] := ⟨_, hl, .cons ⟨t, rfl, ht⟩ .nil⟩
theorem FL.len {H : Hp} {b : Addr} {fs : List Fact} (h : FL H b fs) : ∃ xs, H b = some (.lst xs) ∧ xs.length = fs.length := by
  obtain ⟨xs, h1, h2⟩ := h
  exact ⟨xs, h1, (Paired.length h2).trans (List.length_map rowF)⟩
theorem AQ.snoc {U : List Un} {M : Nat} {fs : List Fact} {g : Fact} (h : AQ U M fs) (hg : FOk U g) (hn : fs.length ≤ 300) : AQ U M (fs ++ [g]) where
  o := h.o
  e := h.e
  f := fun f hf => by
    rcases List.mem_append.mp hf with q | q
    · exact h.f f q
    · rw [List.mem_singleton.mp q]; exact hg
  n := by rw [List.length_append]; show fs.length + 1 ≤ 400; omega
theorem AQ.sub {U : List Un} {M : Nat} {fs gs : List Fact} (h : AQ U M fs) (hs : ∀ g ∈ gs, g ∈ fs) (hn : gs.length ≤ 400) : AQ U M gs := ⟨h.o, h.e, fun f hf => h.f f (hs f hf), hn⟩
theorem bdFs_snoc {U : List Un} {fs : List Fact} {g : Fact} : bdFs U (fs ++ [g]) = bdFs U fs ++ [bdF U g] := by
  unfold bdFs
  rw [List.map_append]; rfl
section
variable {P : Program} {w : World} {K : PySem.W.Frag} {mg : Str → Option Value} {base : Heap}
def sp__law_implied_holds : Sp := fun vs H Q _ => ∃ (a q b hh ta : Addr) (U : List Un) (M : Nat) (fs : List Fact) (cs : List Ch), vs = [.ref a, .ref q, .ref b, .ref hh] ∧ H q = some (.tup [.ref ta, vN M]) ∧ SV H a ∧ ta ≠ a ∧ b ≠ a ∧ hh ≠ a ∧ LT H ta (enR (rnT U)) ∧ FL H b fs ∧ AQ U M fs ∧ fs.length ≤ 300 ∧ 0 < tot U ∧ LT H hh (enB (rn yes cs)) ∧ HB U M cs ∧ (∀ b ∈ bdFs U fs, sat (lvs cs) b = true) ∧ ∀ H', Mod a H H' → SV H' a → Q (.bl true) H'
abbrev n__law_implied_holds : List Str := ["_law_stream_here", "_law_asked", "_law_facts", "_law_history", "_law_text_here", "_law_escapes", "_law_fact", "_law_implied", "_law_opposite_here"]
theorem sc__law_implied_holds : FnScope n__law_implied_holds ["_law_stream_here", "_law_asked", "_law_facts", "_law_history"] (defScope s__law_implied_holds) := ⟨rfl, rfl, rfl, by decide +kernel, rfl, by decide +kernel, by decide +kernel⟩
theorem ok__law_implied_holds (T : Txt K mg) : Cl P w K mg base CX0 "_law_implied_holds" ["_law_stream_here", "_law_asked", "_law_facts", "_law_history"] 12 [] sp__law_implied_holds := by
  obtain ⟨fd, F⟩ := T.def_ 87 (d := d__law_implied_holds) rfl
  have C__law_any_fact := ok__law_any_fact (P := P) (w := w) (base := base) T
  have C__law_draw := ok__law_draw (P := P) (w := w) (base := base) T
  have C_length_of := ok_length_of (P := P) (w := w) (base := base) T
  have C_implied_by := ok_implied_by (P := P) (w := w) (base := base) T
  have C__law_opposite := ok__law_opposite (P := P) (w := w) (base := base) T
  have C_satisfies := ok_satisfies (P := P) (w := w) (base := base) T
  have C_contradiction := ok_contradiction (P := P) (w := w) (base := base) T
  refine cl_ok F (T.glo 70) (fun _ _ _ _ _ _ us hl => match us, hl with | [_, _, _, _], _ => rfl) sc__law_implied_holds (fun vs H Q E h => ?_) (fun cdv A outer s H vs Q E hr h => ?_)
  · obtain ⟨a, q, b, hh, ta, U, M, fs, cs, rfl, _⟩ := h
    rfl
  · obtain ⟨a, q, b, hh, ta, U, M, fs, cs, rfl, hq, hs, na, nb, nh, hta, hb, aq, hn, t0, hl, hB, hsat, k⟩ := h
    refine ⟨_, (pss_cons (ps_asg (pv 1) (pg_tup rfl (pgs_cons (pg_name (i := 4) sc__law_implied_holds.nd rfl (Or.inl rfl)) (pgs_cons (pg_name (i := 5) sc__law_implied_holds.nd rfl (Or.inl rfl)) pgs_nil))))
      (pss_cons (ps_set (i := 6) sc__law_implied_holds.nd rfl (Or.inl rfl) (pe_cl C__law_any_fact (hr.mono (by decide)) (pa_cons (pv 0) (pa_cons (pe_cl C__law_draw (hr.mono (by decide)) (pa_cons (pv 0) (pa_cons (pe_cl C_length_of (hr.mono (by decide)) (pa_cons (pv 4) pa_nil)) pa_nil))) pa_nil))))
      (pss_cons (ps_set (i := 7) sc__law_implied_holds.nd rfl (Or.inl rfl) (pe_cl C_implied_by (hr.mono (by decide)) (pa_cons (pv 4) (pa_cons (pv 5) (pa_cons (pv 2) (pa_cons (pv 6) pa_nil))))))
      (pss_cons (ps_set (i := 8) sc__law_implied_holds.nd rfl (Or.inl rfl) (pe_cl C__law_opposite (hr.mono (by decide)) (pa_cons (pv 6) pa_nil)))
      (pss_cons (ps_if (pt_cmpR op_isN (pv 8) pe_non (nomark _))
        (pss_one (ps_ret (pe_cmpR op_isBl (pv 7) pe_bl (nomark _))))
        pss_nil)
      (pss_cons (ps_if (PW.pt (pw_and (pt_val (pv 7)) (pw_and1 (pt_not (pt_val (pe_cl C_satisfies (hr.mono (by decide)) (pa_cons (pv 4) (pa_cons (pv 5) (pa_cons (pe_lst (pa_cons (pv 6) pa_nil)) (pa_cons (pv 3) pa_nil))))))))))
        (pss_one (ps_ret pe_bl))
        pss_nil)
      (pss_one (ps_ret (pe_cmpR op_eq (pv 7) (pe_cmpR op_notN (pe_cl C_contradiction (hr.mono (by decide)) (pa_cons (pv 4) (pa_cons (pv 5) (pa_cons (pe_op op_cat (pv 2) (pe_lst (pa_cons (pv 8) pa_nil))) pa_nil)))) pe_non (nomark _)) (nomark _)))))))))), ?_⟩
    have c := cons_of_sat aq.uok hB.hc.hl aq.bd hsat
    have e : ctr U M (bdFs U fs) = none := (ctr_none aq.bd).mpr c
    refine ⟨_, rfl, q, _, rfl, SqT.h hq, rfl, _, _, rfl, _, _, rfl, rfl, ?_⟩
    refine ⟨_, rfl, _, rfl, _, rfl, ta, _, rfl, hta, aq.o.rnok, by have := aq.o.run; omega, fun H1 s1 => ?_⟩
    refine ⟨a, Sl.tsz (rnT U), rfl, hs.same s1, by rw [aq.o.tsz]; omega, by rw [aq.o.tsz]; exact tot300 aq.o.tot, fun H2 p m2 hs2 hp => ?_⟩
    rw [aq.o.tsz] at hp
    refine ⟨a, U, p, rfl, hs2, hp, fun H3 t f m3 hs3 ht hfo => ?_⟩
    have M3 := ((Mod.of_same s1).trans m2).trans m3
    obtain ⟨ays, hays⟩ := hs.lst
    have hta3 := hta.mod na hays M3
    have hb3 := hb.mod nb hays M3
    have hl3 := hl.mod nh hays M3
    refine ⟨_, rfl, _, rfl, _, rfl, _, rfl, ta, b, t, U, M, fs, f, rfl, hta3, hb3, aq, ht, hfo, fun H4 s4 => ?_⟩
    have eR : impR U M (bdFs U fs) (bdF U f) = imp U M (bdFs U fs) (bdF U f) := by unfold impR; rw [e]; rfl
    rw [eR]
    refine ⟨_, rfl, t, f, rfl, s4 _ _ ht, ?_⟩
    have fin : ∀ H', Same H3 H' → Mod a H H' ∧ SV H' a := fun H' s => ⟨M3.trans (Mod.of_same s), hs3.same s⟩
    cases eo : opF f with
    | none =>
      have ei : imp U M (bdFs U fs) (bdF U f) = true := by
        unfold imp
        rw [opF_none eo hfo aq.e (c.lowHl aq.uok) (c.lowHl aq.uok).len, opF_none eo hfo aq.e (upHl aq.uok) (upHl aq.uok).len]; rfl
      rw [ei]
      intro H5 s5
      refine ⟨_, rfl, rfl, true, rfl, iteT ?_⟩
      refine ⟨_, rfl, true, true, rfl, rfl, ?_⟩
      obtain ⟨x, y⟩ := fin _ (s4.trans s5)
      exact k _ x y
    | some g =>
      obtain ⟨hgo, hopp⟩ := opF_ok eo hfo
      have eI := imp_opp aq.uok aq.e c (bdF_ok aq.o.tot hfo).bd (bdF_ok aq.o.tot hgo).bd hopp
      rw [← bdFs_snoc] at eI
      intro H5 u s5 hu
      refine ⟨_, rfl, rfl, false, rfl, iteF ?_⟩
      have S5 := s4.trans s5
      cases ei : imp U M (bdFs U fs) (bdF U f) with
      | true =>
        refine ⟨_, rfl, true, rfl, iteT ?_⟩
        refine ⟨_, rfl, _, rfl, _, rfl, z1, fun l nl => ?_⟩
        have s6 : Same H5 (upd H5 l (.lst [.ref t])) := Same.new nl
        have S6 := S5.trans s6
        refine ⟨_, rfl, ta, l, hh, U, M, [f], cs, rfl, hta3.same S6, FL.one upd_same (S6 _ _ ht), hl3.same S6, ⟨aq.o, aq.e, fun x hx => by rw [List.mem_singleton.mp hx]; exact hfo, Nat.succ_le_succ (Nat.zero_le _)⟩, hB, fun H7 s7 => ?_⟩
        have S7 := S6.trans s7
        refine ⟨true, congrArg V.bl (all_sat fun x hx => by rw [List.mem_singleton.mp hx]; exact imp_sat aq.uok c hB.hc.hl hsat (bdF_ok aq.o.tot hfo).bd ei), iteF ?_⟩
        have hb7 := hb3.same S7
        obtain ⟨xs, hxs, hxl⟩ := FL.len hb7
        refine ⟨_, rfl, _, rfl, _, rfl, _, rfl, _, rfl, z1, fun l2 nl2 => ?_⟩
        have s8 : Same H7 (upd H7 l2 (.lst [.ref u])) := Same.new nl2
        refine ⟨b, l2, xs, _, rfl, rfl, s8 _ _ hxs, upd_same, by show xs.length + 1 ≤ _; rw [hxl]; exact sle (by omega), fun pp npp => ?_⟩
        have s9 : Same (upd H7 l2 (.lst [.ref u])) (upd (upd H7 l2 (.lst [.ref u])) pp (.lst (xs ++ [.ref u]))) := Same.new npp
        have S9 := s8.trans s9
        refine ⟨ta, pp, U, M, fs ++ [g], rfl, hta3.same (S7.trans S9), FL.snoc hb7 hxs S9 upd_same ((s6.trans (s7.trans S9)) _ _ hu), aq.snoc hgo hn, ?_⟩
        rw [ei] at eI
        cases ec : ctr U M (bdFs U (fs ++ [g])) with
        | none => rw [ec] at eI; cases eI
        | some r =>
          intro H10 v s10 hv
          refine ⟨rfl, rfl, ?_⟩
          obtain ⟨x, y⟩ := fin _ (S7.trans (S9.trans s10))
          exact k _ x y
      | false =>
        refine ⟨_, rfl, false, rfl, iteF ?_⟩
        have hb7 := hb3.same S5
        obtain ⟨xs, hxs, hxl⟩ := FL.len hb7
        refine ⟨_, rfl, _, rfl, _, rfl, _, rfl, _, rfl, z1, fun l2 nl2 => ?_⟩
        have s8 : Same H5 (upd H5 l2 (.lst [.ref u])) := Same.new nl2
        refine ⟨b, l2, xs, _, rfl, rfl, s8 _ _ hxs, upd_same, by show xs.length + 1 ≤ _; rw [hxl]; exact sle (by omega), fun pp npp => ?_⟩
        have s9 : Same (upd H5 l2 (.lst [.ref u])) (upd (upd H5 l2 (.lst [.ref u])) pp (.lst (xs ++ [.ref u]))) := Same.new npp
        have S9 := s8.trans s9
        refine ⟨ta, pp, U, M, fs ++ [g], rfl, hta3.same (S5.trans S9), FL.snoc hb7 hxs S9 upd_same (S9 _ _ hu), aq.snoc hgo hn, ?_⟩
        rw [ei] at eI
        cases ec : ctr U M (bdFs U (fs ++ [g])) with
        | some r => rw [ec] at eI; cases eI
        | none =>
          intro H10 s10
          refine ⟨rfl, rfl, ?_⟩
          obtain ⟨x, y⟩ := fin _ (S5.trans (S9.trans s10))
          exact k _ x y
end
end Sl


end
section
set_option Elab.async false
set_option linter.all false
set_option maxRecDepth 100000
set_option maxHeartbeats 4000000
namespace Sl
open PySem PySem.Spec PyProof.Rows L2
/-! ### what the law asks of one fact more -/
theorem ns_vN : ∀ r : List Nat, (r.map vN).all nsV = true
  | [] => rfl
  | x :: r => ns_vN r
theorem ok_vN (r : List Nat) : (r.map vN).all okV = true := all_imp (fun _ => okV_of_ns) (ns_vN r)
theorem sub_bd {U : List Un} {gs : List Fact} : ∀ {r : List Nat}, (∀ i ∈ r, i < gs.length) → bdFs U (r.filterMap fun i => gs[i]?) = r.map (bat (bdFs U gs))
  | [], _ => rfl
  | i :: r, h => by
    have hi := h i List.mem_cons_self
    have e : gs[i]? = some gs[i] := List.getElem?_eq_getElem hi
    rw [List.filterMap_cons, e]
    show bdF U gs[i] :: bdFs U (r.filterMap fun i => gs[i]?) = _
    rw [sub_bd fun j hj => h j (List.mem_cons_of_mem _ hj)]
    have e2 : bat (bdFs U gs) i = bdF U gs[i] := by
      refine bat_get ?_
      unfold bdFs
      rw [List.getElem?_map, e]; rfl
    rw [List.map_cons, e2]
theorem sub_fm {gs : List Fact} : ∀ r : List Nat, r.filterMap (fun i => gs[i]?.map rowF) = (r.filterMap fun i => gs[i]?).map rowF
  | [] => rfl
  | i :: r => by
    rw [List.filterMap_cons, List.filterMap_cons, sub_fm r]
    cases gs[i]? <;> rfl
theorem perm_inc {r : List Nat} {ns : List Int} (h : (∃ i, r = [i]) ∨ ∃ i j, r = [i, j] ∧ i < j) (hp : ns.Perm (r.map fun n : Nat => (n : Int))) (hs : ns.Pairwise (· ≤ ·)) : ns.map V.int = r.map vN := by
  rcases h with ⟨i, rfl⟩ | ⟨i, j, rfl, hij⟩
  · have : ns = [(i : Int)] := List.perm_singleton.mp hp
    rw [this]; rfl
  · have hl : ns.length = 2 := hp.length_eq
    match ns, hl, hp, hs with
    | [a, b], _, hp, hs =>
      have hab : a ≤ b := (List.pairwise_cons.mp hs).1 b (by simp)
      have ha : a = (i : Int) ∨ a = (j : Int) := by
        have := hp.subset (List.mem_cons_self (a := a))
        simpa using this
      have hi : (i : Int) = a ∨ (i : Int) = b := by
        have := hp.symm.subset (List.mem_cons_self (a := (i : Int)))
        simpa using this
      have hj : (j : Int) = a ∨ (j : Int) = b := by
        have := hp.symm.subset (show (j : Int) ∈ ([i, j].map fun n : Nat => (n : Int)) by simp)
        simpa using this
      have e1 : a = (i : Int) := by omega
      have e2 : b = (j : Int) := by omega
      rw [e1, e2]; rfl
section
variable {g : TG} {tt : TT} {te : TE} {vs : List Nat} {σ : L2.St} {H1 : Hp} {D : Addr} {n : Nat} {Qd : Hp → Prop} {K : PySem.W.Frag} {a : Addr} {xs : List V}
theorem lcT_rows (f : Nat → Option (List V)) (hn : xs.length ≤ 1000000) (nD : H1 D = none) (hs : H1 a = some (.tup xs))
    (hel : ∀ i x H, xs[i]? = some x → Same H1 H → ∀ Qc Qn, TurnR (f i) H Qc Qn → El g tt te vs σ x H Qc Qn) (hd : ∀ H, Same H1 H → LT H D ((List.range xs.length).filterMap f) → Qd H) :
    ∃ W : Nat → Nat → Hp → Prop, (∃ m, W 0 m (upd H1 D (.lst []))) ∧ ∀ i m H, W i m H →
      ((Itt K a).stop i H ∧ Qd H) ∨ ((Itt K a).go i H ∧ ∃ Nx : Hp → Prop, (∀ H', Nx H' → ∃ m', m' < m ∧ W (i + 1) m' H') ∧ ∀ x H', (Itt K a).yld i H x H' → g x (wipe σ vs) H' fun σ2 H2 => wipe σ2 vs = wipe σ vs ∧ tt σ2 H2 fun b H3 =>
        if b = true then te σ2 H3 fun y H4 => ∃ acc, H4 D = some (.lst acc) ∧ acc.length < sizeLine ∧ Nx (upd H4 D (.lst (acc ++ [y]))) else Nx H3) :=
  lc_rows f hn nD (fun i H hi s => ⟨xs, xs[i], SqT.h (s _ _ hs), by simp [hi]⟩) (fun H s => ⟨xs, SqT.h (s _ _ hs), Nat.le_refl _⟩) (fun i x H H' hi s y => by
    obtain ⟨rfl, y⟩ := y
    exact ⟨Same.refl _, hel i x _ (y xs (SqT.h (s _ _ hs))) s⟩) hd
end
section
variable {P : Program} {w : World} {K : PySem.W.Frag} {mg : Str → Option Value} {base : Heap}
def sp__law_more_holds : Sp := fun vs H Q _ => ∃ (a q b hh ta : Addr) (U : List Un) (M : Nat) (fs : List Fact) (cs : List Ch), vs = [.ref a, .ref q, .ref b, .ref hh] ∧ H q = some (.tup [.ref ta, vN M]) ∧ SV H a ∧ ta ≠ a ∧ b ≠ a ∧ hh ≠ a ∧ LT H ta (enR (rnT U)) ∧ FL H b fs ∧ AQ U M fs ∧ fs.length ≤ 300 ∧ 0 < tot U ∧ LT H hh (enB (rn yes cs)) ∧ HB U M cs ∧ ∀ H', Mod a H H' → SV H' a → Q (.bl true) H'
abbrev n__law_more_holds : List Str := ["_law_stream_here", "_law_asked", "_law_facts", "_law_history", "_law_text_here", "_law_escapes", "_law_found", "_law_index", "error"]
theorem sc__law_more_holds : FnScope n__law_more_holds ["_law_stream_here", "_law_asked", "_law_facts", "_law_history"] (defScope s__law_more_holds) := ⟨rfl, rfl, rfl, by decide +kernel, rfl, by decide +kernel, by decide +kernel⟩
theorem ok__law_more_holds (T : Txt K mg) : Cl P w K mg base CX0 "_law_more_holds" ["_law_stream_here", "_law_asked", "_law_facts", "_law_history"] 13 [] sp__law_more_holds := by
  obtain ⟨fd, F⟩ := T.def_ 88 (d := d__law_more_holds) rfl
  have C__law_any_fact := ok__law_any_fact (P := P) (w := w) (base := base) T
  have C__law_draw := ok__law_draw (P := P) (w := w) (base := base) T
  have C_length_of := ok_length_of (P := P) (w := w) (base := base) T
  have C_contradiction := ok_contradiction (P := P) (w := w) (base := base) T
  have C__law_consistent_holds := ok__law_consistent_holds (P := P) (w := w) (base := base) T
  have C_satisfies := ok_satisfies (P := P) (w := w) (base := base) T
  have C_greatest_with := ok_greatest_with (P := P) (w := w) (base := base) T
  refine cl_ok F (T.glo 71) (fun _ _ _ _ _ _ us hl => match us, hl with | [_, _, _, _], _ => rfl) sc__law_more_holds (fun vs H Q E h => ?_) (fun cdv A outer s H vs Q E hr h => ?_)
  · obtain ⟨a, q, b, hh, ta, U, M, fs, cs, rfl, _⟩ := h
    rfl
  · obtain ⟨a, q, b, hh, ta, U, M, fs, cs, rfl, hq, hs, na, nb, nh, hta, hb, aq, hn, t0, hl, hB, k⟩ := h
    refine ⟨_, (pss_cons (ps_asg (pv 1) (pg_tup rfl (pgs_cons (pg_name (i := 4) sc__law_more_holds.nd rfl (Or.inl rfl)) (pgs_cons (pg_name (i := 5) sc__law_more_holds.nd rfl (Or.inl rfl)) pgs_nil))))
      (pss_cons (ps_set (i := 2) sc__law_more_holds.nd rfl (Or.inr rfl) (pe_op op_cat (pv 2) (pe_lst (pa_cons (pe_cl C__law_any_fact (hr.mono (by decide)) (pa_cons (pv 0) (pa_cons (pe_cl C__law_draw (hr.mono (by decide)) (pa_cons (pv 0) (pa_cons (pe_cl C_length_of (hr.mono (by decide)) (pa_cons (pv 4) pa_nil)) pa_nil))) pa_nil))) pa_nil))))
      (pss_cons (ps_set (i := 6) sc__law_more_holds.nd rfl (Or.inl rfl) (pe_cl C_contradiction (hr.mono (by decide)) (pa_cons (pv 4) (pa_cons (pv 5) (pa_cons (pv 2) pa_nil)))))
      (pss_cons (ps_if (pt_cmpR op_isN (pv 6) pe_non (nomark _))
        (pss_one (ps_ret (pe_cl C__law_consistent_holds (hr.mono (by decide)) (pa_cons (pv 0) (pa_cons (pv 1) (pa_cons (pv 2) (pa_cons pe_non pa_nil)))))))
        pss_nil)
      (pss_cons (ps_if (PW.pt (pw_or (pt_val (pe_cl C_satisfies (hr.mono (by decide)) (pa_cons (pv 4) (pa_cons (pv 5) (pa_cons (pv 2) (pa_cons (pv 3) pa_nil)))))) (pw_or (pt_not (pt_chain oLe oLe pe_int (pe_callB (call_len_seqK K) (by rfl) (T.free 83) bt_len (pa_cons (pv 6) pa_nil)) pe_int)) (pw_or1 (pt_cmpR (op_neDK K hr.units) (pe_callTy (call_list_ofK K) (by rfl) (T.free 88) bt_list (pa_cons (pv 6) pa_nil)) (pe_callB (cr_sortTK K) (by rfl) (T.free 99) bt_sorted (pa_cons (pv 6) pa_nil)) (nomark _))))))
        (pss_one (ps_ret pe_bl))
        pss_nil)
      (pss_cons (ps_if (pt_cmpR op_isN (pe_cl C_contradiction (hr.mono (by decide)) (pa_cons (pv 4) (pa_cons (pv 5) (pa_cons (pe_lc (own := [("_law_index", 7)]) (g := (gName 7)) (tt := tYes) rfl sc__law_more_holds.nd (pi_tup (pv 6)) (blkOk_by (N := n__law_more_holds) (sc := defScope s__law_more_holds) (by decide +kernel)) (fun _ _ _ _ _ => (pg_name (i := 7) sc__law_more_holds.nd rfl (Or.inl rfl))) (fun _ _ _ _ _ => pts_nil) (fun _ _ _ _ _ => (pe_ix (ix_listK K) (pv 2) (pv 7) (fun _ _ => rfl)))) pa_nil)))) pe_non (nomark _))
        (pss_one (ps_ret pe_bl))
        pss_nil)
      (pss_cons (ps_try_as (i := 8) (tb := fun W => tDrop (tCallS (sp_greatest_with K) (WE W) (tCons (tVar 4) (tCons (tVar 5) (tCons (tVar 2) tNil))))) (ts := fun a cls d => tRet (tOp (rEqD K) (tXf a cls d (gaC K) sInd (tVar 8)) (tVar 6))) (Wout := fun _ _ _ _ => False) rfl rfl sc__law_more_holds.nd rfl rfl ⟨rfl, by decide, Or.inl (T.glo 79)⟩ takes0 (fun W pn xe tk _ => pss_one (ps_expr (pe_clS C_greatest_with (hr.mono (by decide)) tk (pa_cons (pv 4) (pa_cons (pv 5) (pa_cons (pv 2) pa_nil)))))) (fun a oe cls d pn hz hf => pss_one (ps_ret (pe_cmpR (op_eqDK K hr.units) (pe_xf T.ctr.xf T.ctr.no hz hf (pv 8)) (pv 6) (nomark _)))))
      (pss_one (ps_ret pe_bl))))))))), ?_⟩
    refine ⟨_, rfl, q, _, rfl, SqT.h hq, rfl, _, _, rfl, _, _, rfl, rfl, ?_⟩
    refine ⟨_, rfl, _, rfl, _, rfl, _, rfl, ta, _, rfl, hta, aq.o.rnok, by have := aq.o.run; omega, fun H1 s1 => ?_⟩
    refine ⟨a, Sl.tsz (rnT U), rfl, hs.same s1, by rw [aq.o.tsz]; omega, by rw [aq.o.tsz]; exact tot300 aq.o.tot, fun H2 p m2 hs2 hp => ?_⟩
    rw [aq.o.tsz] at hp
    refine ⟨a, U, p, rfl, hs2, hp, fun H3 t g m3 hs3 ht hgo => ?_⟩
    have M3 := ((Mod.of_same s1).trans m2).trans m3
    obtain ⟨ays, hays⟩ := hs.lst
    have hq3 := M3 _ _ (ne_lt hays hq) hq
    have hta3 := hta.mod na hays M3
    have hb3 := hb.mod nb hays M3
    have hl3 := hl.mod nh hays M3
    obtain ⟨xs, hxs, hxl⟩ := FL.len hb3
    refine ⟨z1, fun l2 nl2 => ?_⟩
    have s4 : Same H3 (upd H3 l2 (.lst [.ref t])) := Same.new nl2
    refine ⟨b, l2, xs, _, rfl, rfl, s4 _ _ hxs, upd_same, by show xs.length + 1 ≤ _; rw [hxl]; exact sle (by omega), fun pp npp => ?_⟩
    have s5 : Same (upd H3 l2 (.lst [.ref t])) (upd (upd H3 l2 (.lst [.ref t])) pp (.lst (xs ++ [.ref t]))) := Same.new npp
    have S5 := s4.trans s5
    have hf5 : FL (upd (upd H3 l2 (.lst [.ref t])) pp (.lst (xs ++ [.ref t]))) pp (fs ++ [g]) := FL.snoc hb3 hxs S5 upd_same (S5 _ _ ht)
    have aq' := aq.snoc hgo hn
    have ppa : pp ≠ a := by
      rintro rfl
      obtain ⟨ys, hy⟩ := (hs3.same s4).lst
      rw [npp] at hy; cases hy
    have hs5 := hs3.same S5
    have hq5 := S5 _ _ hq3
    have hta5 := hta3.same S5
    have hl5 := hl3.same S5
    have M5 := M3.trans (Mod.of_same S5)
    generalize upd (upd H3 l2 (.lst [.ref t])) pp (.lst (xs ++ [.ref t])) = H5 at hs5 hf5 hq5 hta5 hl5 M5 ⊢
    refine ⟨_, rfl, _, rfl, _, rfl, ta, pp, U, M, fs ++ [g], rfl, hta5, hf5, aq', ?_⟩
    cases ec : ctr U M (bdFs U (fs ++ [g])) with
    | none =>
      intro H6 s6
      refine ⟨_, rfl, rfl, true, rfl, iteT ?_⟩
      exact ⟨_, rfl, _, rfl, _, rfl, a, q, pp, ta, .non, U, M, fs ++ [g], rfl, s6 _ _ hq5, hs5.same s6, na, ppa, hta5.same s6, hf5.same s6, aq', ec, t0, .inl rfl, fun H7 m7 hs7 => k _ ((M5.trans (Mod.of_same s6)).trans m7) hs7⟩
    | some r =>
      intro H6 v s6 hv
      refine ⟨_, rfl, rfl, false, rfl, iteF ?_⟩
      have fin : ∀ H', Same H6 H' → Q (.bl true) H' := fun H' s => k _ (M5.trans (Mod.of_same (s6.trans s))) (hs5.same (s6.trans s))
      have inc : (∃ i, r = [i]) ∨ ∃ i j, r = [i, j] ∧ i < j := by
        rcases ctr_some ec with ⟨i, e, _⟩ | ⟨i, j, e, h, _⟩
        · exact .inl ⟨i, e⟩
        · exact .inr ⟨i, j, e, h⟩
      have rlt : ∀ i ∈ r, i < (fs ++ [g]).length := fun i hi => by
        have hz : (bdFs U (fs ++ [g])).length = (fs ++ [g]).length := by unfold bdFs; rw [List.length_map]
        rw [← hz]
        rcases ctr_some ec with ⟨k, rfl, hk, _⟩ | ⟨j, k, rfl, hjk, hk, _⟩
        · have : i = k := by simpa using hi
          omega
        · have : i = j ∨ i = k := by simpa using hi
          omega
      have rlen : 1 ≤ (r.map vN).length ∧ (r.map vN).length ≤ 2 := by
        rcases inc with ⟨i, rfl⟩ | ⟨i, j, rfl, _⟩
        · exact ⟨Nat.le_refl 1, Nat.le_succ 1⟩
        · exact ⟨Nat.le_succ 1, Nat.le_refl 2⟩
      have eS : (bdFs U (fs ++ [g])).all (sat (lvs cs)) = false := by
        cases e : (bdFs U (fs ++ [g])).all (sat (lvs cs)) with
        | false => rfl
        | true =>
          have := (ctr_none aq'.bd).mpr (cons_of_sat aq.uok hB.hc.hl aq'.bd (List.all_eq_true.mp e))
          rw [ec] at this; cases this
      refine ⟨_, rfl, _, rfl, _, rfl, _, rfl, ta, pp, hh, U, M, fs ++ [g], cs, rfl, hta5.same s6, hf5.same s6, hl5.same s6, aq', hB, fun H7 s7 => ?_⟩
      have hv7 := s7 _ _ hv
      refine ⟨false, congrArg V.bl eS, iteF ?_⟩
      refine ⟨_, rfl, v, _, rfl, .inr (SqT.h hv7), 1, (r.map vN).length, rfl, rfl, true, congrArg V.bl (decide_eq_true rlen.1), iteT ⟨(r.map vN).length, 2, rfl, rfl, true, congrArg V.bl (decide_eq_true rlen.2), iteF ?_⟩⟩
      refine ⟨_, rfl, v, _, rfl, .inr (SqT.h hv7), fun l3 nl3 => ?_⟩
      have s8 : Same H7 (upd H7 l3 (.lst (r.map vN))) := Same.new nl3
      have hv8 := s8 _ _ hv7
      refine ⟨_, rfl, v, r.map (fun n : Nat => (n : Int)), rfl, SqT.h (by rw [List.map_map]; exact hv8), fun ns l4 hp hs4 nl4 => ?_⟩
      rw [perm_inc inc hp hs4]
      have s9 : Same (upd H7 l3 (.lst (r.map vN))) (upd (upd H7 l3 (.lst (r.map vN))) l4 (.lst (r.map vN))) := Same.new nl4
      refine ⟨_, _, lst_dp (s9 _ _ upd_same) (ok_vN r), lst_dp upd_same (ok_vN r), shaped_lst (ok_vN r), shaped_lst (ok_vN r), false, congrArg V.bl (show (!PyData.eqvAll _ _) = false by rw [eqv_all (ns_vN r) (ns_vN r), decide_eq_true rfl]; rfl), iteF ?_⟩
      have S9 := (s6.trans s7).trans (s8.trans s9)
      have hf9 := hf5.same S9
      have hv9 := s9 _ _ hv8
      have hta9 := hta5.same S9
      have fin9 : ∀ H', Same (upd (upd H7 l3 (.lst (r.map vN))) l4 (.lst (r.map vN))) H' → Q (.bl true) H' := fun H' s => fin _ ((s7.trans (s8.trans s9)).trans s)
      generalize upd (upd H7 l3 (.lst (r.map vN))) l4 (.lst (r.map vN)) = H9 at hf9 hv9 hta9 fin9 ⊢
      obtain ⟨ys, hys, hyl⟩ := FL.len hf9
      refine ⟨_, rfl, _, rfl, _, rfl, v, rfl, ⟨_, SqT.h hv9⟩, fun D nD => lcT_rows (xs := r.map vN) (fun i => r[i]?.bind fun j => (fs ++ [g])[j]?.map rowF) (by omega) nD hv9 (fun i x H10 hx s10 Qc Qn tr => ?_) fun H10 s10 hD => ?_⟩
      · rw [List.getElem?_map] at hx
        cases ei : r[i]? with
        | none => rw [ei] at hx; cases hx
        | some j =>
          rw [ei] at hx
          cases hx
          have hj := rlt j (List.mem_of_getElem? ei)
          have ej : (fs ++ [g])[j]? = some (fs ++ [g])[j] := List.getElem?_eq_getElem hj
          unfold TurnR at tr
          rw [ei] at tr
          have tr : TurnR ((fs ++ [g])[j]?.map rowF) H10 Qc Qn := tr
          rw [ej] at tr
          have hys10 := s10 _ _ hys
          have ex : ys[j]? = some (ys[j]'(by rw [hyl]; exact hj)) := List.getElem?_eq_getElem (by rw [hyl]; exact hj)
          obtain ⟨row, t1, e1, e2, e3⟩ := (hf9.same s10).row hys10 ex
          rw [List.getElem?_map, ej] at e1
          cases e1
          refine El.name ?_
          refine ⟨_, rfl, _, rfl, pp, _, _, _, rfl, rfl, SqL.h hys10, atI_nat ex, ?_⟩
          exact tr _ _ (Same.refl _) ⟨t1, e2, e3⟩
      · have eD : (List.range (r.map vN).length).filterMap (fun i => r[i]?.bind fun j => (fs ++ [g])[j]?.map rowF) = (r.filterMap fun i => (fs ++ [g])[i]?).map rowF := by
          rw [List.length_map, fm_rows (rows := r) (k := fun j => (fs ++ [g])[j]?.map rowF) (fun i j h => by rw [h]; rfl), sub_fm]
        rw [eD] at hD
        have aqD : AQ U M (r.filterMap fun i => (fs ++ [g])[i]?) := aq'.sub (fun x hx => by
          obtain ⟨i, _, e⟩ := List.mem_filterMap.mp hx
          exact List.mem_of_getElem? e) (by
          have h1 := List.length_filterMap_le (fun i => (fs ++ [g])[i]?) r
          have h2 := rlen.2
          rw [List.length_map] at h2
          omega)
        refine ⟨ta, D, U, M, _, rfl, hta9.same s10, hD, aqD, ?_⟩
        rw [sub_bd rlt]
        cases e2 : ctr U M (r.map (bat (bdFs U (fs ++ [g])))) with
        | none => exact absurd e2 (ctr_sub aq'.bd ec)
        | some r2 =>
          intro H11 v2 s11 hv2
          refine ⟨rfl, false, rfl, iteF ?_⟩
          have S11 := s10.trans s11
          refine ⟨_, rfl, _, rfl, _, rfl, ta, pp, U, M, fs ++ [g], rfl, hta9.same S11, hf9.same S11, aq', ?_⟩
          rw [ec]
          intro H12 d tt s12 hd htt
          refine ⟨true, He.exm_ok (T.fact 139 (f := .exm "Contradiction" "Contradiction" true) rfl), fun _ a0 _ => ?_, fun q => Bool.noConfusion q⟩
          have hv12 := (S11.trans s12) _ _ hv9
          refine ⟨_, rfl, rfl, rfl, d, _, _, rfl, hd, rfl, _, rfl, _, _, tup_dp htt (ok_vN r), tup_dp hv12 (ok_vN r), shaped_tup (ok_vN r), shaped_tup (ok_vN r), ?_⟩
          have eE : PyData.eqvAll (List.map pdV (r.map vN)) (List.map pdV (r.map vN)) = true := by
            rw [eqv_all (ns_vN r) (ns_vN r)]; exact decide_eq_true rfl
          have kk := fin9 _ (S11.trans s12)
          rw [← eE] at kk
          exact kk
end
end Sl


end
section
set_option Elab.async false
set_option linter.all false
set_option maxRecDepth 100000
set_option maxHeartbeats 4000000
namespace Sl
open PySem PySem.Spec PyProof.Rows L2
/-! ### one stream of the law -/
theorem SV.ne {H : Hp} {a p : Addr} (hs : SV H a) (np : H p = none) : p ≠ a := by
  rintro rfl
  obtain ⟨ys, hy⟩ := hs.lst
  rw [np] at hy; cases hy
theorem fl_mem {w : Nat} {u : Un} (h : u ∈ fl w) : u.1 = sB := by
  unfold fl at h
  by_cases e : w = 0
  · rw [if_pos e] at h; cases h
  · rw [if_neg e] at h
    rw [List.mem_singleton.mp h]
theorem prs_mem : ∀ (cs : List Ch) (w : Nat) (u : Un), u ∈ prs w cs → u.1 = sB ∨ ∃ c ∈ cs, u.1 = c.1
  | [], w, u, h => .inl (fl_mem h)
  | (s, l) :: cs, w, u, h => by
    by_cases hB : s = sB
    · subst hB
      rw [prs_B] at h
      rcases prs_mem cs _ u h with e | ⟨c, hc, e⟩
      · exact .inl e
      · exact .inr ⟨c, List.mem_cons_of_mem _ hc, e⟩
    · by_cases hQ : s = sQ
      · subst hQ
        rw [prs_Q] at h
        rcases List.mem_cons.mp h with e | h
        · exact .inr ⟨_, List.mem_cons_self, by rw [e]⟩
        · rcases prs_mem cs _ u h with e | ⟨c, hc, e⟩
          · exact .inl e
          · exact .inr ⟨c, List.mem_cons_of_mem _ hc, e⟩
      · rw [prs_P _ _ hB hQ] at h
        rcases List.mem_append.mp h with h | h
        · exact .inl (fl_mem h)
        rcases List.mem_cons.mp h with e | h
        · exact .inr ⟨_, List.mem_cons_self, by rw [e]⟩
        · rcases prs_mem cs _ u h with e | ⟨c, hc, e⟩
          · exact .inl e
          · exact .inr ⟨c, List.mem_cons_of_mem _ hc, e⟩
theorem wd_up (s : Sy) {l n : Nat} (h : l ≤ n) : wd s l ≤ 2 ^ n := by
  have h2 := Nat.pow_le_pow_right (n := 2) (by decide) h
  have h3 := Nat.two_pow_pos n
  unfold wd
  split <;> omega
section
variable {ops : List Op} {scale : Nat}
theorem opD_E : ∀ {ops : List Op}, (∀ op ∈ ops, OpD scale op) → opE ops ≤ 5 * ops.length ∧ opN ops ≤ 3 * ops.length
  | [], _ => ⟨Nat.le_refl _, Nat.le_refl _⟩
  | .inl k :: r, h => by
    obtain ⟨h1, h2⟩ := opD_E (ops := r) fun op ho => h op (List.mem_cons_of_mem _ ho)
    have h3 : 1 ≤ k ∧ k ≤ 5 := h _ List.mem_cons_self
    refine ⟨?_, ?_⟩
    · show k + opE r ≤ 5 * (r.length + 1); omega
    · show opN r ≤ 3 * (r.length + 1); omega
  | .inr rs :: r, h => by
    obtain ⟨h1, h2⟩ := opD_E (ops := r) fun op ho => h op (List.mem_cons_of_mem _ ho)
    have h3 : TxD rs 3 scale ∧ 1 ≤ rs.length := h _ List.mem_cons_self
    have h4 := h3.1.len
    refine ⟨?_, ?_⟩
    · show opE r ≤ 5 * (r.length + 1); omega
    · show rs.length + opN r ≤ 3 * (r.length + 1); omega
theorem opD_ok (h : ∀ op ∈ ops, OpD scale op) : ∀ op ∈ ops, OpOk op := fun op ho => by
  have h1 := h op ho
  cases op with
  | inl k =>
    have h2 : 1 ≤ k ∧ k ≤ 5 := h1
    exact ⟨h2.1, by omega⟩
  | inr rs =>
    have h2 : TxD rs 3 scale ∧ 1 ≤ rs.length := h1
    have h3 := h2.1.len
    exact ⟨⟨h2.1.wr, h2.1.sym⟩, h2.2, by omega⟩
theorem opD_mem (h : ∀ op ∈ ops, OpD scale op) {L : Nat} {x : Ch × Nat} (hx : x ∈ opB L ops) : Sym x.1.1 ∧ x.2 ≤ scale ∧ (x.1.1 = sQ → x.2 ≤ 4) := by
  obtain ⟨rs, h1, h2⟩ := opB_mem _ _ x hx
  have h3 : TxD rs 3 scale ∧ 1 ≤ rs.length := h _ h1
  have h4 := h3.1.cnt _ h2
  exact ⟨h3.1.sym (x.1.1, x.2) h2, h4.1, h4.2⟩
theorem opD_ub (h : ∀ op ∈ ops, OpD scale op) (hz : ops.length ≤ 8) (hsc : scale ≤ 10 ^ 12) : UB (prs 0 (opCs ops)) := by
  obtain ⟨hE, hN⟩ := opD_E h
  have hq : (opCs ops).countP (fun c => c.1 = sQ) ≤ (opB (opE ops) ops).length * 4 := nq_le _ fun x hx e => (opD_mem h hx).2.2 e
  rw [opB_len] at hq
  refine ⟨prs_wu _ _, fun u hu => ?_, ?_, ?_, ?_⟩
  · rcases prs_mem _ _ u hu with e | ⟨c, hc, e⟩
    · rw [e]; exact .inl rfl
    · rw [e]
      obtain ⟨x, hx, rfl⟩ := mem_exR1 hc
      exact (opD_mem h hx).1
  · rw [prs_tot, Nat.zero_add]
    have := len_le (opB (opE ops) ops) (M := 10 ^ 12 * 2 ^ 40) fun x hx => Nat.mul_le_mul (Nat.le_trans (opD_mem h hx).2.1 hsc) (wd_up _ (Nat.le_trans (opB_le _ _ x hx) (by omega)))
    rw [opB_len] at this
    have h2 : opN ops * (10 ^ 12 * 2 ^ 40) ≤ 24 * (10 ^ 12 * 2 ^ 40) := Nat.mul_le_mul_right _ (by omega)
    exact Nat.lt_of_le_of_lt (Nat.le_trans this h2) (by decide)
  · have := rnT_blk (opB (opE ops) ops)
    rw [opB_len] at this
    unfold rnT
    rw [tx_prs]
    show (rn yes ((opCs ops).flatMap esc)).length ≤ 1000
    have h2 : (rn yes ((opCs ops).flatMap esc)).length ≤ opN ops + 2 * (opCs ops).countP (fun c => c.1 = sQ) := this
    omega
  · rw [prs_nq]; omega
end
section
variable {P : Program} {w : World} {K : PySem.W.Frag} {mg : Str → Option Value} {base : Heap}
def sp__law_holds : Sp := fun vs H Q _ => ∃ (a : Addr), vs = [.ref a] ∧ SV H a ∧ ∀ H', Mod a H H' → Q (.bl true) H'
abbrev n__law_holds : List Str := ["_law_stream_here", "_law_script_here", "_law_built", "_law_text_here", "_law_name", "_law_value", "_law_escapes", "_law_start", "_law_history", "_law_asked", "_law_facts", "_law_k"]
theorem sc__law_holds : FnScope n__law_holds ["_law_stream_here"] (defScope s__law_holds) := ⟨rfl, rfl, rfl, by decide +kernel, rfl, by decide +kernel, by decide +kernel⟩
theorem ok__law_holds (T : Txt K mg) : Cl P w K mg base CX0 "_law_holds" ["_law_stream_here"] 14 [] sp__law_holds := by
  obtain ⟨fd, F⟩ := T.def_ 89 (d := d__law_holds) rfl
  have C__law_script := ok__law_script (P := P) (w := w) (base := base) T
  have C__law_draw := ok__law_draw (P := P) (w := w) (base := base) T
  have C_history_of := ok_history_of (P := P) (w := w) (base := base) T
  have C_text_of := ok_text_of (P := P) (w := w) (base := base) T
  have C_greatest_with := ok_greatest_with (P := P) (w := w) (base := base) T
  have C_contradiction := ok_contradiction (P := P) (w := w) (base := base) T
  have C_greatest_history := ok_greatest_history (P := P) (w := w) (base := base) T
  have C__law_lowered := ok__law_lowered (P := P) (w := w) (base := base) T
  have C__law_true_fact := ok__law_true_fact (P := P) (w := w) (base := base) T
  have C_length_of := ok_length_of (P := P) (w := w) (base := base) T
  have C__law_consistent_holds := ok__law_consistent_holds (P := P) (w := w) (base := base) T
  have C_satisfies := ok_satisfies (P := P) (w := w) (base := base) T
  have C__law_implied_holds := ok__law_implied_holds (P := P) (w := w) (base := base) T
  have C__law_more_holds := ok__law_more_holds (P := P) (w := w) (base := base) T
  refine cl_ok F (T.glo 72) (fun _ _ _ _ _ _ us hl => match us, hl with | [_], _ => rfl) sc__law_holds (fun vs H Q E h => ?_) (fun cdv A outer s H vs Q E hr h => ?_)
  · obtain ⟨a, rfl, _⟩ := h
    rfl
  · obtain ⟨a, rfl, hs, k⟩ := h
    refine ⟨_, (pss_cons (ps_set (i := 1) sc__law_holds.nd rfl (Or.inl rfl) (pe_cl C__law_script (hr.mono (by decide)) (pa_cons (pv 0) (pa_cons pe_int (pa_cons (pe_ix (ix_listK K) (pe_lst (pa_cons pe_int (pa_cons pe_int (pa_cons (pe_op op_pow pe_int pe_int) pa_nil)))) (pe_cl C__law_draw (hr.mono (by decide)) (pa_cons (pv 0) (pa_cons pe_int pa_nil))) (fun _ _ => rfl)) pa_nil)))))
      (pss_cons (ps_set (i := 2) sc__law_holds.nd rfl (Or.inl rfl) (pe_cl C_history_of (hr.mono (by decide)) (pa_cons (pv 1) pa_nil)))
      (pss_cons (ps_set (i := 3) sc__law_holds.nd rfl (Or.inl rfl) (pe_cl C_text_of (hr.mono (by decide)) (pa_cons (pv 2) pa_nil)))
      (pss_cons (ps_set (i := 6) sc__law_holds.nd rfl (Or.inl rfl) (pe_callB (cr_sumK K rfl) (by rfl) (T.free 90) bt_sum (pa_cons (pe_lc (own := [("_law_name", 4), ("_law_value", 5)]) (g := (gTup K 2 (gCons (gName 4) (gCons (gName 5) gNil)))) rfl sc__law_holds.nd (pi_list (pv 1)) (blkOk_by (N := n__law_holds) (sc := defScope s__law_holds) (by decide +kernel)) (fun _ _ _ _ _ => (pg_tup rfl (pgs_cons (pg_name (i := 4) sc__law_holds.nd rfl (Or.inl rfl)) (pgs_cons (pg_name (i := 5) sc__law_holds.nd rfl (Or.inl rfl)) pgs_nil)))) (fun _ _ _ _ _ => (pts_one (pt_cmpR oEqS (pv 4) pe_str (nomark _)))) (fun _ _ _ _ _ => (pv 5))) pa_nil)))
      (pss_cons (ps_if (pt_cmpR (op_eqDK K hr.units) (pv 3) (pe_lst pa_nil) (nomark _))
        (pss_one (ps_ret (pe_and (pe_cmpR op_isN (pe_cl C_contradiction (hr.mono (by decide)) (pa_cons (pv 3) (pa_cons (pv 6) (pa_cons (pe_lst pa_nil) pa_nil)))) pe_non (nomark _)) (pe_one (pe_cmpR (op_eqDK K hr.units) (pe_clX C_greatest_with (hr.mono (by decide)) (pa_cons (pv 3) (pa_cons (pv 6) (pa_cons (pe_lst pa_nil) pa_nil)))) (pe_lst pa_nil) (nomark _))))))
        pss_nil)
      (pss_cons (ps_set (i := 7) sc__law_holds.nd rfl (Or.inl rfl) (pe_ix (ix_listK K) (pe_lst (pa_cons (pv 2) (pa_cons (pe_cl C_greatest_history (hr.mono (by decide)) (pa_cons (pv 3) (pa_cons (pv 6) pa_nil))) pa_nil))) (pe_cl C__law_draw (hr.mono (by decide)) (pa_cons (pv 0) (pa_cons pe_int pa_nil))) (fun _ _ => rfl)))
      (pss_cons (ps_set (i := 8) sc__law_holds.nd rfl (Or.inl rfl) (pe_cl C__law_lowered (hr.mono (by decide)) (pa_cons (pv 0) (pa_cons (pv 7) pa_nil))))
      (pss_cons (ps_set (i := 9) sc__law_holds.nd rfl (Or.inl rfl) (pe_tup (pa_cons (pv 3) (pa_cons (pv 6) pa_nil))))
      (pss_cons (ps_set (i := 10) sc__law_holds.nd rfl (Or.inl rfl) (pe_lst pa_nil))
      (pss_cons (ps_for PassesOwn.never rfl (pi_range1 (by rfl) (T.free 91) (pa_cons (pe_cl C__law_draw (hr.mono (by decide)) (pa_cons (pv 0) (pa_cons pe_int pa_nil))) pa_nil)) (pg_name (i := 11) sc__law_holds.nd rfl (Or.inl rfl))
        (pss_one (ps_expr (pe_bm PySem.F.plainAttrs_list PySem.F.slot_list_append PySem.F.type_list_append mt_append (pv 10) (pa_cons (pe_cl C__law_true_fact (hr.mono (by decide)) (pa_cons (pv 0) (pa_cons (pv 8) (pa_cons (pe_cl C__law_draw (hr.mono (by decide)) (pa_cons (pv 0) (pa_cons (pe_cl C_length_of (hr.mono (by decide)) (pa_cons (pv 3) pa_nil)) pa_nil))) pa_nil)))) pa_nil)))))
      (pss_cons (ps_if (PW.pt (pw_or (pt_not (pt_val (pe_cl C_satisfies (hr.mono (by decide)) (pa_cons (pv 3) (pa_cons (pv 6) (pa_cons (pv 10) (pa_cons (pv 8) pa_nil))))))) (pw_or1 (pt_not (pt_val (pe_cl C__law_consistent_holds (hr.mono (by decide)) (pa_cons (pv 0) (pa_cons (pv 9) (pa_cons (pv 10) (pa_cons (pv 8) pa_nil))))))))))
        (pss_one (ps_ret pe_bl))
        pss_nil)
      (pss_cons (ps_if (pt_not (pt_val (pe_cl C__law_implied_holds (hr.mono (by decide)) (pa_cons (pv 0) (pa_cons (pv 9) (pa_cons (pv 10) (pa_cons (pv 8) pa_nil)))))))
        (pss_one (ps_ret pe_bl))
        pss_nil)
      (pss_one (ps_ret (pe_cl C__law_more_holds (hr.mono (by decide)) (pa_cons (pv 0) (pa_cons (pv 9) (pa_cons (pv 10) (pa_cons (pv 8) pa_nil))))))))))))))))))), ?_⟩
    refine ⟨_, rfl, 10, 12, rfl, rfl, ⟨by decide, by decide, by decide⟩, z3, fun l nl => ?_⟩
    have s1 : Same H (upd H l (.lst [.int 3, .int 20, .int (10 ^ (12 : Int).toNat)])) := Same.new nl
    refine ⟨_, rfl, a, 3, rfl, hs.same s1, by decide, by decide, fun H2 d m2 hs2 hd => ?_⟩
    have la : l ≠ a := hs.ne nl
    have hl2 : H2 l = some (.lst [.int 3, .int 20, .int (10 ^ (12 : Int).toNat)]) := m2 _ _ la upd_same
    obtain ⟨scale, h1, h2, en⟩ : ∃ scale : Nat, 1 ≤ scale ∧ scale ≤ 10 ^ 12 ∧ ([.int 3, .int 20, .int (10 ^ (12 : Int).toNat)] : List V)[d]? = some (vN scale) := by
      have hd3 : d = 0 ∨ d = 1 ∨ d = 2 := by omega
      rcases hd3 with rfl | rfl | rfl
      · exact ⟨3, by decide, by decide, rfl⟩
      · exact ⟨20, by decide, by decide, rfl⟩
      · exact ⟨10 ^ 12, by decide, by decide, rfl⟩
    refine ⟨l, _, _, _, rfl, rfl, SqL.h hl2, atI_nat en, ?_⟩
    have hsc : scale < 2 ^ 200 := Nat.lt_of_le_of_lt h2 (by decide)
    refine ⟨a, 8, scale, rfl, hs2, by decide, h1, hsc, fun H3 p ops m3 hs3 np pa hst hop hz => ?_⟩
    have m03 := ((Mod.of_same s1).trans m2).trans m3
    obtain ⟨hE, hN⟩ := opD_E hop
    have hu := opD_ub hop hz h2
    have hB : HB (prs 0 (opCs ops)) (opE ops) (opCs ops) := ⟨op_hc ops, by omega⟩
    refine ⟨_, rfl, p, ops, rfl, hst, opD_ok hop, by omega, by omega, by omega, fun H4 b s4 nb hb => ?_⟩
    have hrun := hu.run
    refine ⟨_, rfl, b, rn yes (opCs ops), rfl, hb, hB.bk hu, hB.bs hu, by rw [exR_rn]; exact hu.pc, by rw [exR_rn]; exact Nat.le_trans hrun (by decide), fun H5 ta s5 nta hta => ?_⟩
    rw [exR_rn] at hta
    have hta : LT H5 ta (enR (rnT (prs 0 (opCs ops)))) := hta
    have ba : b ≠ a := hs3.ne nb
    have taa : ta ≠ a := (hs3.same s4).ne nta
    have hb5 := hb.same s5
    have hst5 := hst.same (s4.trans s5)
    have hs5 := hs3.same (s4.trans s5)
    have m05 := m03.trans (Mod.of_same (s4.trans s5))
    obtain ⟨xs, hxs, hxl⟩ := hst5.lst
    refine ⟨_, rfl, p, rfl, ⟨_, SqL.h hxs⟩, fun D nD => lcL_flat (xs := xs) (fun i => ops[i]?.bind fun op => match op with | .inl n => some (vN n) | .inr _ => none) (by omega) nD (SqL.h hxs) (fun i x H6 hx s6 Qc Qn t => ?_) fun H6 s6 hD => ?_⟩
    · obtain ⟨op, e1, e2⟩ := (hst5.same s6).row (s6 _ _ hxs) hx
      obtain ⟨t0, rfl, e2⟩ := e2
      cases op with
      | inl n =>
        have t' : ∀ H', Same H6 H' → Qc (vN n) H' := by
          unfold TurnF at t
          rw [e1] at t
          exact t
        have e3 : H6 t0 = some (.tup [.str sEsc, vN n]) := e2
        refine ⟨t0, _, rfl, SqT.h e3, rfl, _, _, rfl, _, _, rfl, rfl, rfl, ?_⟩
        refine ⟨_, rfl, sEsc, sEsc, rfl, rfl, true, rfl, ?_⟩
        exact ⟨_, rfl, t' _ (Same.refl _)⟩
      | inr rs =>
        have t' : ∀ H', Same H6 H' → Qn H' := by
          unfold TurnF at t
          rw [e1] at t
          exact t
        obtain ⟨b, e3, _⟩ := e2
        refine ⟨t0, _, rfl, SqT.h e3, rfl, _, _, rfl, _, _, rfl, rfl, rfl, ?_⟩
        refine ⟨_, rfl, sApp, sEsc, rfl, rfl, false, rfl, ?_⟩
        exact t' _ (Same.refl _)
    have e : (List.range xs.length).filterMap (fun i => ops[i]?.bind fun op => match op with | .inl n => some (vN n) | .inr _ => none) = ((opEs ops).map fun n : Nat => (n : Int)).map V.int := by
      rw [hxl, fm_rows (k := fun op : Op => match op with | .inl n => some (vN n) | .inr _ => none) (fun i r h => by rw [h]; rfl), List.map_map]
      unfold opEs
      rw [List.map_filterMap]
      congr 1
      funext op
      cases op <;> rfl
    rw [e] at hD
    refine ⟨D, _, rfl, SqL.h hD, ?_⟩
    rw [sum_cast, opEs_sum]
    have hM : opE ops ≤ 200 := hB.e
    generalize hcs : opCs ops = cs0 at hu hB hta hb5 hrun ⊢
    generalize hUU : prs 0 cs0 = U at hu hB hta hrun ⊢
    generalize hMM : opE ops = M at hB hM ⊢
    refine ⟨_, rfl, z0, fun l6 nl6 => ?_⟩
    have s7 : Same H6 (upd H6 l6 (.lst [])) := Same.new nl6
    have S7 := s6.trans s7
    have ok : ∀ r ∈ enR (rnT U), r.all okV = true := fun r hr => ok_ns (enR_ns hu.rnok.sym r hr)
    have hta7 := hta.same S7
    refine ⟨_, _, hta7.dpo ok, (LT.nil upd_same).dpo (fun r hr => nomatch hr), shaped_rows ok, shaped_rows (fun r hr => nomatch hr), (enR (rnT U)).isEmpty, congrArg V.bl eqv_E, ?_⟩
    have hs7 := hs5.same S7
    have hb7 := hb5.same S7
    have m07 := m05.trans (Mod.of_same S7)
    generalize upd H6 l6 (.lst []) = H7 at hta7 hs7 hb7 m07 ⊢
    have e0 : ctr U M (bdFs U []) = none := (ctr_none (bs := []) fun _ h => nomatch h).mpr ⟨fun _ h => (nomatch h), fun _ h => (nomatch h), fun _ _ _ _ h => (nomatch h)⟩
    have aq0 : AQ U M [] := ⟨hu, hM, fun _ h => (nomatch h), Nat.zero_le _⟩
    cases U with
    | nil =>
      refine iteT ?_
      refine ⟨_, rfl, _, rfl, z0, fun l8 nl8 => ?_⟩
      have s8 : Same H7 (upd H7 l8 (.lst [])) := Same.new nl8
      refine ⟨ta, l8, [], M, [], rfl, hta7.same s8, LT.nil upd_same, aq0, ?_⟩
      rw [e0]
      intro H9 s9
      refine ⟨rfl, true, rfl, iteT ?_⟩
      refine ⟨_, rfl, _, rfl, z0, fun l10 nl10 => ?_⟩
      have s10 : Same H9 (upd H9 l10 (.lst [])) := Same.new nl10
      have S10 := (s8.trans s9).trans s10
      refine ⟨ta, l10, [], M, [], rfl, hta7.same S10, LT.nil upd_same, aq0, ?_⟩
      rw [e0]
      intro H11 g s11 ng hg
      have hg : LT H11 g [] := hg
      refine ⟨z0, fun l12 nl12 => ?_⟩
      have s12 : Same H11 (upd H11 l12 (.lst [])) := Same.new nl12
      refine ⟨_, _, (hg.same s12).dpo (fun r hr => nomatch hr), (LT.nil upd_same).dpo (fun r hr => nomatch hr), shaped_rows (fun r hr => nomatch hr), shaped_rows (fun r hr => nomatch hr), ?_⟩
      exact k _ (m07.trans (Mod.of_same ((S10.trans s11).trans s12)))
    | cons u0 U0 =>
      generalize hV : u0 :: U0 = U at hu hB hta7 ok e0 aq0 ⊢
      have t0 : 0 < tot U := by
        rw [← hV]
        have h1 := hu.wu.pos u0 (by rw [← hV]; exact List.mem_cons_self)
        show 0 < u0.2 + tot U0
        omega
      have ne : (enR (rnT U)).isEmpty = false := by
        cases er : rnT U with
        | nil =>
          have h1 := hu.tsz
          rw [er] at h1
          have h2 : 0 = tot U := h1
          omega
        | cons x r => rfl
      rw [ne]
      refine iteF ?_
      refine ⟨_, rfl, _, rfl, _, rfl, ta, U, M, rfl, hta7, hu, hM, fun H8 gh s8 ngh hgh => ⟨z2, fun l8 nl8 => ?_⟩⟩
      have s9 : Same H8 (upd H8 l8 (.lst [.ref b, .ref gh])) := Same.new nl8
      have S9 := s8.trans s9
      have l8a : l8 ≠ a := (hs7.same s8).ne nl8
      have gha : gh ≠ a := hs7.ne ngh
      refine ⟨_, rfl, a, 2, rfl, hs7.same S9, by decide, by decide, fun H10 d2 m10 hs10 hd2 => ?_⟩
      obtain ⟨ays, hays⟩ := (hs7.same S9).lst
      have hl10 : H10 l8 = some (.lst [.ref b, .ref gh]) := m10 _ _ l8a upd_same
      have hb10 := (hb7.same S9).mod ba hays m10
      have hgh10 := (hgh.same s9).mod gha hays m10
      have hta10 := (hta7.same S9).mod taa hays m10
      obtain ⟨h0, cs1, h0a, hh0, hB0, en2⟩ : ∃ (h0 : Addr) (cs1 : List Ch), h0 ≠ a ∧ LT H10 h0 (enB (rn yes cs1)) ∧ HB U M cs1 ∧ ([.ref b, .ref gh] : List V)[d2]? = some (.ref h0) := by
        have hd : d2 = 0 ∨ d2 = 1 := by omega
        rcases hd with rfl | rfl
        · exact ⟨b, cs0, ba, hb10, hB, rfl⟩
        · exact ⟨gh, gru M U, gha, hgh10, HB.gru hu hM, rfl⟩
      refine ⟨l8, _, _, _, rfl, rfl, SqL.h hl10, atI_nat en2, ?_⟩
      refine ⟨_, rfl, _, rfl, a, h0, U, M, cs1, rfl, hs10, h0a, hh0, hu, hB0, fun H11 h ds m11 hs11 ha hBd hld => ?_⟩
      obtain ⟨ays10, hays10⟩ := hs10.lst
      have hta11 := hta10.mod taa hays10 m11
      have m011 := ((m07.trans (Mod.of_same S9)).trans m10).trans m11
      refine ⟨_, rfl, _, rfl, z2, fun q nq => ?_⟩
      have s12 : Same H11 (upd H11 q (.tup [.ref ta, vN M])) := Same.new nq
      have hq12 : upd H11 q (.tup [.ref ta, vN M]) q = some (.tup [.ref ta, vN M]) := upd_same
      have hs12 := hs11.same s12
      have hta12 := hta11.same s12
      have hld12 := hld.same s12
      have m012 := m011.trans (Mod.of_same s12)
      generalize upd H11 q (.tup [.ref ta, vN M]) = H12 at hq12 hs12 hta12 hld12 m012 ⊢
      refine ⟨z0, fun lf nlf => ?_⟩
      have s13 : Same H12 (upd H12 lf (.lst [])) := Same.new nlf
      have lfa : lf ≠ a := hs12.ne nlf
      obtain ⟨ays12, hays12⟩ := hs12.lst
      refine ⟨_, rfl, a, 9, rfl, hs12.same s13, by decide, by decide, fun H14 n m14 hs14 hn => ?_⟩
      refine ⟨(n : Int), rfl, by omega, by omega, ?_⟩
      rw [Int.toNat_natCast]
      refine for_range (lo := 0) (n := n) (fun i σ H' => Mod a H12 H' ∧ SV H' a ∧ ∃ (v4 v5 v7 v11 : Option V) (fs : List Fact), σ = [some (.ref a), some (.ref p), some (.ref b), some (.ref ta), v4, v5, some (vN M), v7, some (.ref h), some (.ref q), some (.ref lf), v11] ∧ FL H' lf fs ∧ (∀ f ∈ fs, FOk U f) ∧ (∀ b ∈ bdFs U fs, sat (lvs ds) b = true) ∧ fs.length ≤ i)
        ⟨(Mod.of_same s13).trans m14, hs14, _, _, _, _, [], rfl, (LT.nil upd_same).mod lfa ((s13 _ _ hays12)) m14, fun _ h => (nomatch h), fun _ h => (nomatch h), Nat.le_refl _⟩ ?_ ?_
      · rintro i σ H' hi ⟨mH, hsH, v4, v5, v7, v11, fs, rfl, hfl, hok, hsat, hz2⟩
        obtain ⟨ys, hys, hyl⟩ := FL.len hfl
        have htaH := hta12.mod taa hays12 mH
        refine ⟨_, rfl, .inl ⟨rfl, _, SqL.h hys⟩, _, rfl, _, rfl, _, rfl, _, rfl, ta, _, rfl, htaH, hu.rnok, by have := hu.run; omega, fun H15 s15 => ?_⟩
        refine ⟨a, Sl.tsz (rnT U), rfl, hsH.same s15, by rw [hu.tsz]; omega, by rw [hu.tsz]; exact tot300 hu.tot, fun H16 pos m16 hs16 hpos => ?_⟩
        rw [hu.tsz] at hpos
        have mH16 := (mH.trans (Mod.of_same s15)).trans m16
        refine ⟨a, h, U, M, ds, pos, rfl, hs16, ha, hld12.mod ha hays12 mH16, hu, hBd, hpos, fun H17 t f m17 hs17 ht hfo hft => ?_⟩
        have mHH := ((Mod.of_same s15).trans m16).trans m17
        obtain ⟨aysH, haysH⟩ := hsH.lst
        have hfl17 := hfl.mod lfa haysH mHH
        have hys17 := mHH _ _ lfa hys
        refine ⟨lf, ys, _, rfl, rfl, hys17, by rw [hyl]; exact slt (by omega), ?_⟩
        have hpush := LT.push hfl17 hys17 ht
        have er : fs.map rowF ++ [rowF f] = (fs ++ [f]).map rowF := by rw [List.map_append]; rfl
        rw [er] at hpush
        refine ⟨Mod.mut (mH16.trans m17) nlf, hs17.mod (Ne.symm lfa) Mod.upd, _, _, _, _, fs ++ [f], rfl, hpush, fun g hg => ?_, fun g hg => ?_, by rw [List.length_append]; exact Nat.succ_le_succ hz2⟩
        · rcases List.mem_append.mp hg with z | z
          · exact hok g z
          · rw [List.mem_singleton.mp z]; exact hfo
        · rw [bdFs_snoc] at hg
          rcases List.mem_append.mp hg with z | z
          · exact hsat g z
          · rw [List.mem_singleton.mp z]; exact hft
      · rintro σ H' ⟨mH, hsH, v4, v5, v7, v11, fs, rfl, hfl, hok, hsat, hz2⟩
        have hq15 := mH _ _ (ne_lt hays12 hq12) hq12
        have hta15 := hta12.mod taa hays12 mH
        have hld15 := hld12.mod ha hays12 mH
        have aq : AQ U M fs := ⟨hu, hM, hok, by omega⟩
        have c := cons_of_sat aq.uok hBd.hc.hl aq.bd hsat
        have ee : ctr U M (bdFs U fs) = none := (ctr_none aq.bd).mpr c
        refine ⟨_, rfl, _, rfl, _, rfl, _, rfl, ta, lf, h, U, M, fs, ds, rfl, hta15, hfl, hld15, aq, hBd, fun H16 s16 => ?_⟩
        refine ⟨true, congrArg V.bl (all_sat hsat), iteF ?_⟩
        have hs16 := hsH.same s16
        refine ⟨_, rfl, _, rfl, _, rfl, _, rfl, a, q, lf, ta, .ref h, U, M, fs, rfl, s16 _ _ hq15, hs16, taa, lfa, hta15.same s16, hfl.same s16, aq, ee, t0, .inr ⟨h, ds, rfl, hld15.same s16, hBd, hsat⟩, fun H17 m17 hs17 => ?_⟩
        refine ⟨true, rfl, iteF ?_⟩
        obtain ⟨ays16, hays16⟩ := hs16.lst
        have hq17 := m17 _ _ (ne_lt hays16 (s16 _ _ hq15)) (s16 _ _ hq15)
        have hta17 := (hta15.same s16).mod taa hays16 m17
        have hld17 := (hld15.same s16).mod ha hays16 m17
        have hfl17 := (hfl.same s16).mod lfa hays16 m17
        refine ⟨_, rfl, _, rfl, _, rfl, _, rfl, a, q, lf, h, ta, U, M, fs, ds, rfl, hq17, hs17, taa, lfa, ha, hta17, hfl17, aq, by omega, t0, hld17, hBd, hsat, fun H18 m18 hs18 => ?_⟩
        refine ⟨true, rfl, iteF ?_⟩
        obtain ⟨ays17, hays17⟩ := hs17.lst
        have hq18 := m18 _ _ (ne_lt hays17 hq17) hq17
        refine ⟨_, rfl, _, rfl, _, rfl, _, rfl, a, q, lf, h, ta, U, M, fs, ds, rfl, hq18, hs18, taa, lfa, ha, hta17.mod taa hays17 m18, hfl17.mod lfa hays17 m18, aq, by omega, t0, hld17.mod ha hays17 m18, hBd, fun H19 m19 hs19 => ?_⟩
        exact k _ ((((m012.trans mH).trans (Mod.of_same s16)).trans m17).trans (m18.trans m19))
end
end Sl


end
section
set_option Elab.async false
set_option linter.all false
set_option maxRecDepth 100000
set_option maxHeartbeats 4000000
namespace Sl
open PySem PySem.Spec PyProof.Rows L2
/-! ### the law -/
theorem fm_none {α β : Type} : ∀ l : List α, l.filterMap (fun _ => (none : Option β)) = []
  | [] => rfl
  | x :: r => by rw [List.filterMap_cons]; exact fm_none r
theorem cut_ints (ns : List Int) (lo hi : Option Int) : ∃ ms : List Int, cutV (ns.map V.int) lo hi = ms.map V.int ∧ ms.length ≤ ns.length := by
  unfold cutV
  rw [← List.map_drop, ← List.map_take]
  exact ⟨_, rfl, by rw [List.length_take, List.length_drop]; omega⟩
section
variable {g : TG} {tt : TT} {te : TE} {vs : List Nat} {σ : L2.St} {H1 : Hp} {D : Addr} {n : Nat} {Qd : Hp → Prop} {K : PySem.W.Frag} {a : Addr} {xs : List V}
theorem lcE_flat (f : Nat → Option V) (hn : xs.length ≤ 1000000) (nD : H1 D = none) (hs : H1 a = some (.lst xs))
    (hel : ∀ i x T H, xs[i]? = some x → Same H1 H → H T = none → ∀ Qc Qn, TurnF (f i) (upd H T (.tup [vN i, x])) Qc Qn → El g tt te vs σ (.ref T) (upd H T (.tup [vN i, x])) Qc Qn) (hd : ∀ H, Same H1 H → H D = some (.lst ((List.range xs.length).filterMap f)) → Qd H) :
    ∃ W : Nat → Nat → Hp → Prop, (∃ m, W 0 m (upd H1 D (.lst []))) ∧ ∀ i m H, W i m H →
      ((Ite K a).stop i H ∧ Qd H) ∨ ((Ite K a).go i H ∧ ∃ Nx : Hp → Prop, (∀ H', Nx H' → ∃ m', m' < m ∧ W (i + 1) m' H') ∧ ∀ x H', (Ite K a).yld i H x H' → g x (wipe σ vs) H' fun σ2 H2 => wipe σ2 vs = wipe σ vs ∧ tt σ2 H2 fun b H3 =>
        if b = true then te σ2 H3 fun y H4 => ∃ acc, H4 D = some (.lst acc) ∧ acc.length < sizeLine ∧ Nx (upd H4 D (.lst (acc ++ [y]))) else Nx H3) :=
  lc_flat f hn nD (fun i H hi s => ⟨xs, xs[i], SqL.h (s _ _ hs), by simp [hi]⟩) (fun H s => ⟨xs, SqL.h (s _ _ hs), Nat.le_refl _⟩) (fun i x H H' hi s y => by
    obtain ⟨T, z, rfl, nT, rfl, y⟩ := y
    exact ⟨Same.new nT, hel i z T H (y xs (SqL.h (s _ _ hs))) s nT⟩) hd
end
section
variable {P : Program} {w : World} {K : PySem.W.Frag} {mg : Str → Option Value} {base : Heap}
theorem fnd_ok {x qual : Str} {params : Arguments} {body : List Stmt} {scope : Scope} {f : Addr} {fd : FuncData} {N ps : List Str} {k : Nat} {sp : Sp} (F : FunD K x qual params body scope [] [] f fd)
    (S : FnScope N ps scope) (len : ∀ vs H Q E, sp vs H Q E → vs.length = ps.length)
    (hbody : ∀ (cdv : Value) (A : Around) (outer : List Env) (s : Shared) (H : Hp) (vs : List V) (Q : VK) (E : XK), Room k (A.deeper (envOfC qual scope s.heap.objs.size f cdv)) → sp vs H Q E →
      ∃ t, PSs (cxOf CX0 P w K mg base N qual scope f cdv A outer s H E).nox body t ∧ t { nx := fun _ H' => Q .non H', rt := Q } (start N vs) H) : FnOk P w K mg base CX0 (k + 1) f fd ps sp :=
  F.ok S len fun cdv A outer s H vs Q E hr h => by
    obtain ⟨t, h1, h2⟩ := hbody cdv A outer s H vs Q E hr h
    exact ⟨t, h1.nox, h2⟩
def spX (K : PySem.W.Frag) : Sp := fun vs H Q _ => ∃ (a : Addr) (ns : List Int), vs = [.ref a] ∧ SqL K H a (ns.map V.int) ∧ ns.length ≤ 63 ∧ ∀ H', Q (.bl true) H'
abbrev n_law : List Str := ["_law_script_here", "_law_cells", "_law_k", "_law_cell"]
theorem sc_law : FnScope n_law ["_law_script_here"] (defScope s_law) := ⟨rfl, rfl, rfl, by decide +kernel, rfl, by decide +kernel, by decide +kernel⟩
theorem fn_law (T : Txt K mg) {fd : FuncData} (F : FunD K d_law.name d_law.qual d_law.params d_law.body d_law.scope (d_law.dvs K) (d_law.kws K) (He.fAd K d_law.at_) fd) : FnOk P w K mg base CX0 15 (He.fAd K d_law.at_) fd ["_law_script_here"] (spX K) := by
  have C__law_holds := ok__law_holds (P := P) (w := w) (base := base) T
  have C__law_stream := ok__law_stream (P := P) (w := w) (base := base) T
  refine fnd_ok F sc_law (fun vs H Q E h => ?_) (fun cdv A outer s H vs Q E hr h => ?_)
  · obtain ⟨a, ns, rfl, _⟩ := h
    rfl
  · obtain ⟨a, ns, rfl, hS, hn, k⟩ := h
    refine ⟨_, (pss_cons (ps_set (i := 1) sc_law.nd rfl (Or.inl rfl) (pe_slice (sl_listK K) (pe_op op_cat (pe_slice (sl_listK K) (pv 0) po_none (po_some pe_int)) (pe_lst (pa_cons pe_int pa_nil))) po_none (po_some (pe_callB (call_max2 rfl) (by rfl) (T.free 94) bt_max (pa_cons pe_int (pa_cons (pe_callB (call_min2 rfl) (by rfl) (T.free 95) bt_min (pa_cons pe_int (pa_cons (pe_callB (call_len_seqK K) (by rfl) (T.free 83) bt_len (pa_cons (pv 0) pa_nil)) pa_nil))) pa_nil))))))
      (pss_one (ps_ret (pe_cmpR (op_eqDK K hr.units) (pe_lc (own := [("_law_k", 2), ("_law_cell", 3)]) (g := (gTup K 2 (gCons (gName 2) (gCons (gName 3) gNil)))) rfl sc_law.nd (pi_enum (by rfl) (T.free 93) (pa_cons (pv 1) pa_nil)) (blkOk_by (N := n_law) (sc := defScope s_law) (by decide +kernel)) (fun _ _ _ _ _ => (pg_tup rfl (pgs_cons (pg_name (i := 2) sc_law.nd rfl (Or.inl rfl)) (pgs_cons (pg_name (i := 3) sc_law.nd rfl (Or.inl rfl)) pgs_nil)))) (fun _ _ _ _ _ => (pts_one (pt_not (pt_val (pe_cl C__law_holds (hr.mono (by decide)) (pa_cons (pe_cl C__law_stream (hr.mono (by decide)) (pa_cons (pv 3) (pa_cons (pv 2) pa_nil))) pa_nil)))))) (fun _ _ _ _ _ => (pv 2))) (pe_lst pa_nil) (nomark _))))), ?_⟩
    refine ⟨_, rfl, 5, rfl, a, _, rfl, hS, fun p1 np1 => ?_⟩
    obtain ⟨ms, em, hm⟩ := cut_ints ns none (some 5)
    have s1 : Same H (upd H p1 (.lst (cutV (ns.map V.int) none (some 5)))) := Same.new np1
    have h1 : upd H p1 (.lst (cutV (ns.map V.int) none (some 5))) p1 = some (.lst (ms.map V.int)) := by rw [upd_same, em]
    refine ⟨z1, fun l nl => ?_⟩
    have s2 : Same (upd H p1 (.lst (cutV (ns.map V.int) none (some 5)))) (upd (upd H p1 (.lst (cutV (ns.map V.int) none (some 5)))) l (.lst [.int 0])) := Same.new nl
    refine ⟨p1, l, ms.map V.int, _, rfl, rfl, s2 _ _ h1, upd_same, by rw [List.length_map]; show ms.length + 1 ≤ _; exact sle (by omega), fun c nc => ?_⟩
    have S3 := (s1.trans s2).trans (Same.new (o := .lst (ms.map V.int ++ [.int 0])) nc)
    obtain ⟨ks, ek, hk⟩ := cut_ints (ms ++ [0]) none (some (if (if ((ns.map V.int).length : Int) < 5 then ((ns.map V.int).length : Int) else 5) > 1 then (if ((ns.map V.int).length : Int) < 5 then ((ns.map V.int).length : Int) else 5) else 1))
    rw [List.map_append] at ek
    rw [List.length_append] at hk
    refine ⟨_, rfl, a, _, rfl, .inl (S3.seq hS), 5, _, rfl, 1, _, rfl, _, rfl, c, _, rfl, SqL.h upd_same, fun q nq => ?_⟩
    refine ⟨_, rfl, q, ks.map V.int, rfl, SqL.h (by rw [upd_same]; exact congrArg (fun z => some (HO.lst z)) ek), fun D nD => lcE_flat (xs := ks.map V.int) (fun _ => none) (by rw [List.length_map]; have : ms.length + 1 ≥ ks.length := hk; omega) nD (by rw [upd_same]; exact congrArg (fun z => some (HO.lst z)) ek) (fun i x T1 H2 hx s4 nT Qc Qn t => ?_) fun H2 s4 hD => ?_⟩
    · have hi : i < ks.length := by
        have := (List.getElem?_eq_some_iff.mp hx).1
        rwa [List.length_map] at this
      rw [List.getElem?_map, List.getElem?_eq_getElem hi] at hx
      cases hx
      refine ⟨T1, _, rfl, SqT.h upd_same, rfl, _, _, rfl, _, _, rfl, rfl, rfl, ?_⟩
      refine ⟨_, rfl, _, rfl, ks[i], i, rfl, Nat.lt_of_lt_of_le hi (Nat.le_trans hk (Nat.le_trans (show ms.length + 1 ≤ 1000 by omega) (by decide))), fun H4 p s5 np hsv => ?_⟩
      refine ⟨p, rfl, hsv, fun H5 m5 => ⟨true, rfl, ?_⟩⟩
      exact t _ (m5.same s5 np)
    · rw [fm_none] at hD
      refine ⟨z0, fun l5 nl5 => ?_⟩
      have s6 : Same H2 (upd H2 l5 (.lst [])) := Same.new nl5
      refine ⟨_, _, (LT.nil (s6 _ _ hD)).dpo (fun r hr => nomatch hr), (LT.nil upd_same).dpo (fun r hr => nomatch hr), shaped_rows (fun r hr => nomatch hr), shaped_rows (fun r hr => nomatch hr), ?_⟩
      exact k _
theorem fin {h : Heap} {fa : Addr} (X : K.In h) (G : h.Ns mainGlobals mg) (hfa : mg "law" = some (.ref fa)) (c : SaysX K) :
    ∃ fd : FuncData, (∀ (s : Shared) (v : Value), BindsTo s fd ⟨[v], []⟩ [("_law_script_here", v)]) ∧ ∀ base : Heap, K.In base → base.Ns mainGlobals mg → FnOk P w K mg base CX0 30 fa fd ["_law_script_here"] (spX K) := by
  have T : Txt K mg := ⟨c, ⟨h, X, G⟩⟩
  obtain ⟨fd, F⟩ := T.def_ 90 (d := d_law) rfl
  have e : mg "law" = some (.ref (He.fAd K d_law.at_)) := T.glo 73
  rw [hfa] at e
  cases e
  exact ⟨fd, fun s v => FunD.bindsA (ps := ["_law_script_here"]) F (fun _ _ _ _ _ _ us hl => match us, hl with | [_], _ => rfl) s [v] rfl, fun base _ _ => (fn_law T F).mono (by decide)⟩
end
end Sl


end
section
set_option Elab.async false
set_option maxRecDepth 100000
open PySem PySem.W PyProof.Rows
set_option maxHeartbeats 0
theorem PySem.Challenge.cw_slashlevels_k63_whole_facts_holds : PySem.Challenge.rw_slashlevels_k63_whole_facts.Holds := by
  w_on; o_law; k_head; (case hw => w_witness2)
  k_fill
  refine L2.walk_of (l := PySem.Challenge.rw_slashlevels_k63_whole_facts) (n := 63) (k := 30) (x := "_law_script_here") (CX := fun _ => L2.CX0) (sp := fun w => Sl.spX _) rfl (by decide) rfl ⟨rfl, by decide, by decide⟩ (fun w h Y => PySem.W.kIn_of Y) ?F (fun _ _ a ns hl _ hS => ⟨a, ns, rfl, hS, hl, fun _ => rfl⟩) (fun _ _ _ _ _ h => h)
  case F =>
    intro w mg fa h KX G hmg
    exact Sl.fin KX G hmg (show Sl.obsX _ = Sl.valX by kernel_rfl)
end
