import PyProof.Rows.All
import Wide.All
import OpenK.AllK
import Wide.FinOn
import HandS.ForMost
import HandS.Conv
import HandS.SortInts
import HandS.SortRule
import HandS.DictComp
import HandS.Deep
import HandS.Wide
import HandS.IsInst
import PySem.Challenge.RW_turnedrows_k23_whole_turns_none_fewer
set_option Elab.async false
set_option linter.all false
set_option maxRecDepth 100000
set_option maxHeartbeats 4000000
/-! M1 -/
namespace TR
/-! ### spots, partners, light lines that cross -/
def dk (s : Nat) : Nat := if s % 2 = 0 then s + 1 else s - 1
def pc (n s : Nat) : Nat := if s = 0 then 2 * n + 1 else if s = 2 * n + 1 then 0 else if s % 2 = 0 then s - 1 else s + 1
def btw (p q s : Nat) : Prop := (p < s ∧ s < q) ∨ (q < s ∧ s < p)
def Cr (L : Nat → Nat) (x y : Nat) : Prop := ¬ (btw x (L x) y ↔ btw x (L x) (L y))
structure Ivl (N : Nat) (L : Nat → Nat) : Prop where
  bd : ∀ s, s < N → L s < N
  inv : ∀ s, s < N → L (L s) = s
  ne : ∀ s, s < N → L s ≠ s
inductive Con (N : Nat) (L : Nat → Nat) (x : Nat) : Nat → Prop
  | refl : Con N L x x
  | lp {y : Nat} : Con N L x y → Con N L x (L y)
  | cr {y z : Nat} : Con N L x y → z < N → Cr L y z → Con N L x z
theorem dk_dk (s : Nat) : dk (dk s) = s := by unfold dk; grind
theorem dk_ne (s : Nat) : dk s ≠ s := by unfold dk; grind
theorem dk_lt {n s : Nat} (h : s < 2 * n + 2) : dk s < 2 * n + 2 := by unfold dk; grind
theorem dk_half (s : Nat) : dk s / 2 = s / 2 := by unfold dk; split <;> omega
theorem dk_par (s : Nat) : (dk s + s) % 2 = 1 := by unfold dk; split <;> omega
theorem pc_pc {n s : Nat} (h : s < 2 * n + 2) : pc n (pc n s) = s := by unfold pc; grind
theorem pc_lt {n s : Nat} (h : s < 2 * n + 2) : pc n s < 2 * n + 2 := by unfold pc; grind
theorem pc_par {n s : Nat} (h : s < 2 * n + 2) : (pc n s + s) % 2 = 1 := by unfold pc; grind
theorem pc_ne {n s : Nat} (h : s < 2 * n + 2) : pc n s ≠ s := by unfold pc; grind

section
variable {N : Nat} {L : Nat → Nat}
theorem Con.bd (I : Ivl N L) {x y : Nat} (hx : x < N) (h : Con N L x y) : y < N := by
  induction h with
  | refl => exact hx
  | lp _ ih => exact I.bd _ ih
  | cr _ hz _ _ => exact hz
theorem Con.trans {x y z : Nat} (h : Con N L x y) (h2 : Con N L y z) : Con N L x z := by
  induction h2 with
  | refl => exact h
  | lp _ ih => exact .lp ih
  | cr _ hz hc ih => exact .cr ih hz hc
theorem Cr.symm (I : Ivl N L) {x y : Nat} (hx : x < N) (hy : y < N) (h : Cr L x y) : Cr L y x := by
  have a := I.bd x hx
  have b := I.bd y hy
  have c := I.inv x hx
  have d := I.inv y hy
  have e := I.ne x hx
  have f := I.ne y hy
  have g1 : x ≠ y := by
    intro q
    subst q
    apply h
    unfold btw
    omega
  have g2 : L x ≠ y := by
    intro q
    apply h
    rw [← q, c]
    unfold btw
    omega
  have g3 : L x ≠ L y := by
    intro q
    apply g1
    rw [← c, q, d]
  have g4 : x ≠ L y := by
    intro q
    apply g2
    rw [q, d]
  unfold Cr btw at *
  grind
theorem Con.symm (I : Ivl N L) {x y : Nat} (hx : x < N) (h : Con N L x y) : Con N L y x := by
  induction h with
  | refl => exact .refl
  | @lp y h ih =>
    have q : Con N L (L y) y := by
      have e := Con.lp (N := N) (L := L) (x := L y) .refl
      rwa [I.inv y (h.bd I hx)] at e
    exact q.trans ih
  | @cr y z h hz hc ih =>
    exact (Con.cr .refl (h.bd I hx) (hc.symm I (h.bd I hx) hz)).trans ih
/-- a light line with an end of the part on each side is in the part -/
theorem straddle (I : Ivl N L) {x y c : Nat} (hx : x < N) (hy : y < N) (h : Con N L x c) (h1 : btw y (L y) x) (h2 : ¬ btw y (L y) c) : Con N L x y := by
  refine Classical.byContradiction fun hn => h2 ?_
  have nc : ∀ z, z < N → Con N L x z → (btw y (L y) z ↔ btw y (L y) (L z)) := fun z hz hz2 => Classical.byContradiction fun q => hn (.cr hz2 hy (Cr.symm I hy hz q))
  have key : ∀ z, Con N L x z → btw y (L y) z := by
    intro z hz
    induction hz with
    | refl => exact h1
    | @lp z h ih => exact (nc z (h.bd I hx) h).mp ih
    | @cr z w h hw hc ih =>
      have e1 := (nc z (h.bd I hx) h).mp ih
      have e2 := nc w hw (.cr h hw hc)
      unfold Cr btw at *
      grind
  exact key c h
theorem notbtw_of (I : Ivl N L) {x y c : Nat} (hy : y < N) (h : Con N L x y) (hn : ¬ Con N L x c) : c ≠ y ∧ c ≠ L y := by
  constructor
  · intro q; exact hn (q ▸ h)
  · intro q; exact hn (q ▸ h.lp)
/-- two parts do not alternate -/
theorem nest (I : Ivl N L) {c1 c2 a1 a2 : Nat} (hc : c1 < N) (ha : a1 < N) (h1 : Con N L c1 c2) (h2 : Con N L a1 a2) (hn : ¬ Con N L c1 a1) (hb : btw c1 c2 a1) : btw c1 c2 a2 := by
  have off : ∀ z, Con N L a1 z → ¬ Con N L c1 z := fun z hz q => hn (q.trans (hz.symm I ha))
  have nc : ∀ z, z < N → Con N L a1 z → btw c1 c2 z → btw c1 c2 (L z) := by
    intro z hz hz2 hb2
    refine Classical.byContradiction fun q => ?_
    have o1 := off z hz2
    have o2 := off _ hz2.lp
    have n1 : z ≠ c1 := fun e => o1 (e ▸ .refl)
    have n2 : z ≠ c2 := fun e => o1 (e ▸ h1)
    have n3 : L z ≠ c1 := fun e => o2 (e ▸ .refl)
    have n4 : L z ≠ c2 := fun e => o2 (e ▸ h1)
    by_cases e : btw z (L z) c1
    · refine o1 (straddle I hc hz h1 e ?_)
      unfold btw at *
      grind
    · have e2 : btw z (L z) c2 := by
        unfold btw at *
        grind
      exact o1 (h1.trans (straddle I (h1.bd I hc) hz (h1.symm I hc) e2 e))
  have key : ∀ z, Con N L a1 z → btw c1 c2 z ∧ btw c1 c2 (L z) := by
    intro z hz
    induction hz with
    | refl => exact ⟨hb, nc _ ha .refl hb⟩
    | @lp z h ih => exact ⟨ih.2, by rw [I.inv z (h.bd I ha)]; exact ih.1⟩
    | @cr z w h hw hc ih =>
      have e1 := nc w hw (.cr h hw hc)
      have e2 := nc (L w) (I.bd w hw) (Con.cr h hw hc).lp
      rw [I.inv w hw] at e2
      unfold Cr btw at *
      grind
  exact (key a2 h2).1
end
/-! ### the last and the first place of a kind -/
theorem last_below (p : Nat → Prop) : ∀ a : Nat, (∃ s, s < a ∧ p s) → ∃ s, s < a ∧ p s ∧ ∀ t, s < t → t < a → ¬ p t
  | 0, ⟨s, h, _⟩ => absurd h (Nat.not_lt_zero s)
  | a + 1, ⟨s, h, hp⟩ => by
    by_cases q : p a
    · exact ⟨a, Nat.lt_succ_self a, q, fun t h1 h2 => by omega⟩
    · have hs : s < a := by
        have : s ≠ a := fun e => q (e ▸ hp)
        omega
      obtain ⟨s', h1, h2, h3⟩ := last_below p a ⟨s, hs, hp⟩
      exact ⟨s', by omega, h2, fun t h4 h5 => by
        by_cases e : t = a
        · exact e ▸ q
        · exact h3 t h4 (by omega)⟩
theorem first_above (p : Nat → Prop) (a : Nat) (h : ∃ s, a < s ∧ p s) : ∃ s, a < s ∧ p s ∧ ∀ t, a < t → t < s → ¬ p t := by
  obtain ⟨s, h1, h2⟩ := h
  induction s using Nat.strongRecOn with
  | ind s ih =>
    by_cases q : ∃ t, a < t ∧ t < s ∧ p t
    · obtain ⟨t, q1, q2, q3⟩ := q
      exact ih t q2 q1 q3
    · exact ⟨s, h1, h2, fun t h3 h4 h5 => q ⟨t, h3, h4, h5⟩⟩
theorem step_down (p : Nat → Prop) {a b : Nat} (h : a < b) (ha : p a) (hb : ¬ p b) : ∃ s, a ≤ s ∧ s < b ∧ p s ∧ ¬ p (s + 1) := by
  obtain ⟨s, h1, h2, h3⟩ := last_below (fun s => p s ∧ a ≤ s) b ⟨a, h, ha, Nat.le_refl a⟩
  refine ⟨s, h2.2, h1, h2.1, fun q => ?_⟩
  by_cases e : s + 1 = b
  · exact hb (e ▸ q)
  · exact h3 (s + 1) (by omega) (by omega) ⟨q, by omega⟩
theorem step_up (p : Nat → Prop) {a b : Nat} (h : a < b) (ha : ¬ p a) (hb : p b) : ∃ s, a ≤ s ∧ s < b ∧ ¬ p s ∧ p (s + 1) := by
  obtain ⟨s, h1, h2, h3, h4⟩ := step_down (fun s => ¬ p s) h ha (fun q => q hb)
  exact ⟨s, h1, h2, h3, Classical.byContradiction h4⟩
/-! ### a set that is closed all around but for one place -/
theorem circ {n : Nat} (Z : Nat → Prop) (hd : ∀ s, s < 2 * n + 2 → Z s → Z (dk s)) (e : Nat) (hp : ∀ s, s < 2 * n + 2 → Z s → s ≠ e → Z (pc n s)) {a b : Nat} (ha : a < 2 * n + 2) (hb : b < 2 * n + 2) (za : Z a) : Z b := by
  refine Classical.byContradiction fun zb => ?_
  have down : ∀ s, s + 1 < 2 * n + 2 → Z s → ¬ Z (s + 1) → s % 2 = 1 ∧ s = e := by
    intro s h1 h2 h3
    have o : s % 2 = 1 := Classical.byContradiction fun q => h3 (by
      have := hd s (by omega) h2
      rwa [dk, if_pos (by omega)] at this)
    refine ⟨o, Classical.byContradiction fun q => h3 ?_⟩
    have := hp s (by omega) h2 q
    rwa [pc, if_neg (by omega), if_neg (by omega), if_neg (by omega)] at this
  have up : ∀ s, s + 1 < 2 * n + 2 → ¬ Z s → Z (s + 1) → s % 2 = 1 ∧ s + 1 = e := by
    intro s h1 h2 h3
    have o : s % 2 = 1 := Classical.byContradiction fun q => h2 (by
      have := hd (s + 1) (by omega) h3
      rwa [dk, if_neg (by omega), Nat.add_sub_cancel] at this)
    refine ⟨o, Classical.byContradiction fun q => h2 ?_⟩
    have := hp (s + 1) (by omega) h3 q
    rwa [pc, if_neg (by omega), if_neg (by omega), if_pos (by omega), Nat.add_sub_cancel] at this
  have c0 : Z 0 → 0 ≠ e → Z (2 * n + 1) := fun z q => by
    have := hp 0 (by omega) z q
    rwa [pc, if_pos rfl] at this
  have c1 : Z (2 * n + 1) → 2 * n + 1 ≠ e → Z 0 := fun z q => by
    have := hp (2 * n + 1) (by omega) z q
    rwa [pc, if_neg (by omega), if_pos rfl] at this
  rcases Nat.lt_trichotomy a b with h | h | h
  · obtain ⟨s, h1, h2, h3, h4⟩ := step_down Z h za zb
    obtain ⟨o, es⟩ := down s (by omega) h3 h4
    by_cases z0 : Z 0
    · have z1 := c0 z0 (by omega)
      by_cases eb : b = 2 * n + 1
      · exact zb (eb ▸ z1)
      · obtain ⟨t, k1, k2, k3, k4⟩ := step_up Z (show b < 2 * n + 1 by omega) zb z1
        obtain ⟨o2, et⟩ := up t (by omega) k3 k4
        omega
    · by_cases ea : a = 0
      · exact z0 (ea ▸ za)
      · obtain ⟨t, k1, k2, k3, k4⟩ := step_up Z (show 0 < a by omega) z0 za
        obtain ⟨o2, et⟩ := up t (by omega) k3 k4
        omega
  · exact zb (h ▸ za)
  · obtain ⟨s, h1, h2, h3, h4⟩ := step_up Z h zb za
    obtain ⟨o, es⟩ := up s (by omega) h3 h4
    by_cases z1 : Z (2 * n + 1)
    · have z0 := c1 z1 (by omega)
      by_cases eb : b = 0
      · exact zb (eb ▸ z0)
      · obtain ⟨t, k1, k2, k3, k4⟩ := step_down Z (show 0 < b by omega) z0 zb
        obtain ⟨o2, et⟩ := down t (by omega) k3 k4
        omega
    · by_cases ea : a = 2 * n + 1
      · exact z1 (ea ▸ za)
      · obtain ⟨t, k1, k2, k3, k4⟩ := step_down Z (show a < 2 * n + 1 by omega) za z1
        obtain ⟨o2, et⟩ := down t (by omega) k3 k4
        omega
/-! ### drawings -/
structure Dr (n : Nat) (mk sp : Nat → Nat) : Prop where
  mk_lt : ∀ s, s < 2 * n + 2 → mk s < 2 * n + 2
  sp_lt : ∀ s, s < 2 * n + 2 → sp s < 2 * n + 2
  sp_mk : ∀ s, s < 2 * n + 2 → sp (mk s) = s
  mk_sp : ∀ s, s < 2 * n + 2 → mk (sp s) = s
  mk_pc : ∀ s, s < 2 * n + 2 → mk (pc n s) = pc n (mk s)
def lp (mk sp : Nat → Nat) (s : Nat) : Nat := sp (dk (mk s))
section
variable {n : Nat} {mk sp : Nat → Nat}
theorem Dr.symm (D : Dr n mk sp) : Dr n sp mk := ⟨D.sp_lt, D.mk_lt, D.mk_sp, D.sp_mk, fun s h => by
  have e := D.mk_pc (sp s) (D.sp_lt s h)
  rw [D.mk_sp s h] at e
  rw [← e, D.sp_mk _ (pc_lt (D.sp_lt s h))]⟩
theorem Dr.ivl (D : Dr n mk sp) : Ivl (2 * n + 2) (lp mk sp) := ⟨fun s h => D.sp_lt _ (dk_lt (D.mk_lt s h)), fun s h => by
  unfold lp
  rw [D.mk_sp _ (dk_lt (D.mk_lt s h)), dk_dk, D.sp_mk s h], fun s h e => by
  have q : mk (lp mk sp s) = mk s := by rw [e]
  unfold lp at q
  rw [D.mk_sp _ (dk_lt (D.mk_lt s h))] at q
  exact dk_ne _ q⟩
theorem Dr.mk_lp (D : Dr n mk sp) {s : Nat} (h : s < 2 * n + 2) : mk (lp mk sp s) = dk (mk s) := D.mk_sp _ (dk_lt (D.mk_lt s h))
theorem Dr.lp_sp (D : Dr n mk sp) {s : Nat} (h : s < 2 * n + 2) : lp mk sp (sp s) = sp (dk s) := by
  unfold lp
  rw [D.mk_sp s h]
theorem Dr.inj (D : Dr n mk sp) {s t : Nat} (h : s < 2 * n + 2) (h2 : t < 2 * n + 2) (e : mk s = mk t) : s = t := by
  rw [← D.sp_mk s h, e, D.sp_mk t h2]
/-- a stretch of spots that is closed along the light lines, and isn't all, begins at an even and ends at an odd spot -/
theorem even_odd (D : Dr n mk sp) {u v : Nat} (huv : u ≤ v) (hv : v < 2 * n + 2) (hc : ∀ s, u ≤ s → s ≤ v → u ≤ lp mk sp s ∧ lp mk sp s ≤ v) {w : Nat} (hw : w < 2 * n + 2) (hw2 : ¬ (u ≤ w ∧ w ≤ v)) : u % 2 = 0 ∧ v % 2 = 1 := by
  have base : ∀ e, e < 2 * n + 2 → (∀ s, u ≤ s → s ≤ v → s ≠ e → u ≤ pc n s ∧ pc n s ≤ v) → False := by
    intro e he hp
    refine hw2 ?_
    have q := circ (n := n) (fun m => u ≤ sp m ∧ sp m ≤ v) (fun m h z => by
      have := hc (sp m) z.1 z.2
      rwa [D.lp_sp h] at this) (mk e) (fun m h z ne => by
      have := hp (sp m) z.1 z.2 (fun q => ne (by rw [← q, D.mk_sp m h]))
      rwa [D.symm.mk_pc m h]) (a := mk u) (b := mk w) (D.mk_lt u (by omega)) (D.mk_lt w hw) (by
      show u ≤ sp (mk u) ∧ sp (mk u) ≤ v
      rw [D.sp_mk u (by omega)]
      omega)
    have q2 : u ≤ sp (mk w) ∧ sp (mk w) ≤ v := q
    rwa [D.sp_mk w hw] at q2
  rcases Nat.mod_two_eq_zero_or_one u with eu | eu
  · rcases Nat.mod_two_eq_zero_or_one v with ev | ev
    · refine (base u (by omega) fun s h1 h2 h3 => ?_).elim
      unfold pc
      grind
    · exact ⟨eu, ev⟩
  · refine (base v (by omega) fun s h1 h2 h3 => ?_).elim
    unfold pc
    grind
abbrev Cn (n : Nat) (mk sp : Nat → Nat) : Nat → Nat → Prop := Con (2 * n + 2) (lp mk sp)
/-- what is not of a part is parted from it by a closed stretch: a gap of the part, or all that lies from its first to its last spot -/
theorem gap (D : Dr n mk sp) {x a : Nat} (hx : x < 2 * n + 2) (ha : a < 2 * n + 2) (hn : ¬ Cn n mk sp x a) :
    ∃ u v, u ≤ v ∧ v < 2 * n + 2 ∧ (∀ s, u ≤ s → s ≤ v → u ≤ lp mk sp s ∧ lp mk sp s ≤ v) ∧
      ((u ≤ a ∧ a ≤ v ∧ (∀ c, Cn n mk sp x c → ¬ (u ≤ c ∧ c ≤ v)) ∧ 1 ≤ u ∧ v + 1 < 2 * n + 2 ∧ Cn n mk sp x (u - 1) ∧ Cn n mk sp x (v + 1)) ∨
        (¬ (u ≤ a ∧ a ≤ v) ∧ (∀ c, Cn n mk sp x c → u ≤ c ∧ c ≤ v) ∧ Cn n mk sp x u ∧ Cn n mk sp x v)) := by
  have I := D.ivl
  have str : ∀ c1 c2 y, y < 2 * n + 2 → Cn n mk sp x c1 → Cn n mk sp x c2 → btw y (lp mk sp y) c1 → ¬ btw y (lp mk sp y) c2 → Cn n mk sp x y := fun c1 c2 y hy h1 h2 b1 b2 =>
    h1.trans (straddle I (h1.bd I hx) hy ((h1.symm I hx).trans h2) b1 b2)
  by_cases lo : ∃ s, s < a ∧ Cn n mk sp x s
  · by_cases hi : ∃ s, a < s ∧ Cn n mk sp x s
    · obtain ⟨s, s1, s2, s3⟩ := last_below _ a lo
      obtain ⟨t, t1, t2, t3⟩ := first_above _ a hi
      have tb := t2.bd I hx
      have free : ∀ c, s < c → c < t → ¬ Cn n mk sp x c := fun c h1 h2 q => by
        rcases Nat.lt_trichotomy c a with h | h | h
        · exact s3 c h1 h q
        · exact hn (h ▸ q)
        · exact t3 c h h2 q
      refine ⟨s + 1, t - 1, by omega, by omega, fun y h1 h2 => ?_, .inl ⟨by omega, by omega, fun c h1 h2 => free c (by omega) (by omega) h1, by omega, by omega, s2, ?_⟩⟩
      · refine Classical.byContradiction fun q => ?_
        have fy := free y (by omega) (by omega)
        have fl : ¬ Cn n mk sp x (lp mk sp y) := fun q => fy (by
          have := q.lp
          rwa [I.inv y (by omega)] at this)
        have n1 : lp mk sp y ≠ s := fun e => fl (e ▸ s2)
        have n2 : lp mk sp y ≠ t := fun e => fl (e ▸ t2)
        by_cases e : btw y (lp mk sp y) s
        · refine fy (str s t y (by omega) s2 t2 e ?_)
          unfold btw at *
          omega
        · refine fy (str t s y (by omega) t2 s2 ?_ e)
          unfold btw at *
          omega
      · rwa [show t - 1 + 1 = t by omega]
    · have xa : x < a := by
        rcases Nat.lt_trichotomy x a with h | h | h
        · exact h
        · exact absurd (h ▸ .refl) hn
        · exact absurd ⟨x, h, .refl⟩ hi
      obtain ⟨t, t1, t2, t3⟩ := last_below _ a lo
      have top : ∀ c, Cn n mk sp x c → c ≤ t := fun c h => Classical.byContradiction fun q => by
        rcases Nat.lt_trichotomy c a with h1 | h1 | h1
        · exact t3 c (by omega) h1 h
        · exact hn (h1 ▸ h)
        · exact hi ⟨c, h1, h⟩
      obtain ⟨s, s2, s3⟩ : ∃ s, Cn n mk sp x s ∧ ∀ c, Cn n mk sp x c → s ≤ c := by
        by_cases z : Cn n mk sp x 0
        · exact ⟨0, z, fun c _ => Nat.zero_le c⟩
        · obtain ⟨s, _, s2, s3⟩ := first_above (Cn n mk sp x) 0 ⟨x, Nat.pos_of_ne_zero (fun e => z (e ▸ .refl)), .refl⟩
          exact ⟨s, s2, fun c h => Classical.byContradiction fun q => s3 c (Nat.pos_of_ne_zero (fun e => z (e ▸ h))) (by omega) h⟩
      have st := s3 t t2
      have tb := t2.bd I hx
      refine ⟨s, t, st, tb, fun y h1 h2 => ?_, .inr ⟨by omega, fun c h => ⟨s3 c h, top c h⟩, s2, t2⟩⟩
      refine Classical.byContradiction fun q => ?_
      have fy : ¬ Cn n mk sp x y := fun h => q ⟨s3 _ h.lp, top _ h.lp⟩
      have n1 : y ≠ s := fun e => fy (e ▸ s2)
      have n2 : y ≠ t := fun e => fy (e ▸ t2)
      by_cases e : btw y (lp mk sp y) s
      · refine fy (str s t y (by omega) s2 t2 e ?_)
        unfold btw at *
        omega
      · refine fy (str t s y (by omega) t2 s2 ?_ e)
        unfold btw at *
        omega
  · have xa : a < x := by
      rcases Nat.lt_trichotomy x a with h | h | h
      · exact absurd ⟨x, h, .refl⟩ lo
      · exact absurd (h ▸ .refl) hn
      · exact h
    obtain ⟨s, s1, s2, s3⟩ := first_above (Cn n mk sp x) a ⟨x, xa, .refl⟩
    have bot : ∀ c, Cn n mk sp x c → s ≤ c := fun c h => Classical.byContradiction fun q => by
      rcases Nat.lt_trichotomy c a with h1 | h1 | h1
      · exact lo ⟨c, h1, h⟩
      · exact hn (h1 ▸ h)
      · exact s3 c h1 (by omega) h
    obtain ⟨t, t1, t2, t3⟩ := last_below (Cn n mk sp x) (2 * n + 2) ⟨x, hx, .refl⟩
    have top : ∀ c, Cn n mk sp x c → c ≤ t := fun c h => Classical.byContradiction fun q => t3 c (by omega) (h.bd I hx) h
    have st := bot t t2
    refine ⟨s, t, st, t1, fun y h1 h2 => ?_, .inr ⟨by omega, fun c h => ⟨bot c h, top c h⟩, s2, t2⟩⟩
    refine Classical.byContradiction fun q => ?_
    have fy : ¬ Cn n mk sp x y := fun h => q ⟨bot _ h.lp, top _ h.lp⟩
    have n1 : y ≠ s := fun e => fy (e ▸ s2)
    have n2 : y ≠ t := fun e => fy (e ▸ t2)
    by_cases e : btw y (lp mk sp y) s
    · refine fy (str s t y (by omega) s2 t2 e ?_)
      unfold btw at *
      omega
    · refine fy (str t s y (by omega) t2 s2 ?_ e)
      unfold btw at *
      omega
/-- a part is closed along the dark lines -/
theorem con_dk (D : Dr n mk sp) {x : Nat} (hx : x < 2 * n + 2) : Cn n mk sp x (dk x) := by
  refine Classical.byContradiction fun hn => ?_
  have hd : dk x < 2 * n + 2 := dk_lt hx
  obtain ⟨u, v, huv, hv, hc, h | h⟩ := gap D hx hd hn
  · have h1 := h.2.2.1 x .refl
    have eo := even_odd D huv hv hc hx h1
    have h2 := h.1
    have h3 := h.2.1
    unfold dk at h2 h3
    split at h2 <;> rename_i p <;> simp only [p, if_true, if_false] at h3 <;> omega
  · have h1 := h.2.1 x .refl
    have h2 := h.1
    have eo := even_odd D huv hv hc hd h2
    unfold dk at h2
    split at h2 <;> omega
end
end TR

/-! M2 -/
namespace TR
/-! ### lists as finite sets -/
section
variable {α : Type}
theorem sub_len : ∀ (l1 l2 : List α), l1.Nodup → (∀ x, x ∈ l1 → x ∈ l2) → l1.length ≤ l2.length
  | [], _, _, _ => Nat.zero_le _
  | x :: r, l2, nd, h => by
    have hx : x ∈ l2 := h x List.mem_cons_self
    obtain ⟨a, b, e⟩ := List.append_of_mem hx
    have nd2 := List.nodup_cons.mp nd
    have q := sub_len r (a ++ b) nd2.2 fun y hy => by
      have := h y (List.mem_cons_of_mem _ hy)
      rw [e, List.mem_append, List.mem_cons] at this
      have ne : y ≠ x := fun e => nd2.1 (e ▸ hy)
      rw [List.mem_append]
      rcases this with h1 | h1 | h1
      · exact .inl h1
      · exact absurd h1 ne
      · exact .inr h1
    rw [e, List.length_cons, List.length_append, List.length_cons]
    rw [List.length_append] at q
    omega
theorem sub_eq {l1 l2 : List α} (nd : l1.Nodup) (h : ∀ x, x ∈ l1 → x ∈ l2) (e : l2.length ≤ l1.length) : ∀ x, x ∈ l2 → x ∈ l1 := fun x hx => Classical.byContradiction fun q => by
  have := sub_len (x :: l1) l2 (List.nodup_cons.mpr ⟨q, nd⟩) fun y hy => by
    rcases List.mem_cons.mp hy with h1 | h1
    · exact h1 ▸ hx
    · exact h y h1
  rw [List.length_cons] at this
  omega
theorem len_eq {l1 l2 : List α} (n1 : l1.Nodup) (n2 : l2.Nodup) (h : ∀ x, x ∈ l1 ↔ x ∈ l2) : l1.length = l2.length :=
  Nat.le_antisymm (sub_len _ _ n1 fun x hx => (h x).mp hx) (sub_len _ _ n2 fun x hx => (h x).mpr hx)
end
/-! ### hurdles among things that part one another as the points of a tree do -/
section
variable {α : Type} (sep : α → α → α → Prop)
structure Tree (U : α → Prop) : Prop where
  sym : ∀ c a b, sep c a b → sep c b a
  irr : ∀ c a, U c → U a → a ≠ c → ¬ sep c a a
  t1 : ∀ c a b d, U c → U a → U b → U d → d ≠ c → sep c a b → sep c a d ∨ sep c d b
  t2 : ∀ c a b, U a → U b → U c → a ≠ b → b ≠ c → a ≠ c → sep c a b → ¬ sep a b c
def isH (S : List α) (c : α) : Prop := ∀ a, a ∈ S → ∀ b, b ∈ S → a ≠ c → b ≠ c → ¬ sep c a b
open Classical in
noncomputable def hs (S : List α) : List α := S.filter fun c => decide (isH sep S c)
open Classical in
noncomputable def but (c : α) (S : List α) : List α := S.filter fun a => decide (a ≠ c)
def great (S : List α) (c : α) : Prop := ∃ u, u ∈ S ∧ u ≠ c ∧ isH sep (but c S) u ∧ ¬ isH sep S u
def fort (S : List α) : Prop := (hs sep S).length % 2 = 1 ∧ ∀ c, c ∈ hs sep S → great sep S c
open Classical in
noncomputable def cost (S : List α) : Nat := (hs sep S).length + (if fort sep S then 1 else 0)
variable {sep}
open Classical in
theorem mem_hs {S : List α} {c : α} : c ∈ hs sep S ↔ c ∈ S ∧ isH sep S c := by
  unfold hs
  rw [List.mem_filter, decide_eq_true_iff]
open Classical in
theorem mem_but {S : List α} {c a : α} : a ∈ but c S ↔ a ∈ S ∧ a ≠ c := by
  unfold but
  rw [List.mem_filter, decide_eq_true_iff]
theorem nd_hs {S : List α} (h : S.Nodup) : (hs sep S).Nodup := h.filter _
theorem isH.mono {S S' : List α} {c : α} (h : isH sep S' c) (hs : ∀ x, x ∈ S → x ∈ S') : isH sep S c := fun a ha b hb => h a (hs a ha) b (hs b hb)
theorem cost_le (S : List α) : cost sep S ≤ (hs sep S).length + 1 := by
  unfold cost
  split <;> omega
theorem le_cost (S : List α) : (hs sep S).length ≤ cost sep S := by
  unfold cost
  split <;> omega
theorem cost_fort {S : List α} (h : fort sep S) : cost sep S = (hs sep S).length + 1 := by
  unfold cost
  rw [if_pos h]
theorem cost_nofort {S : List α} (h : ¬ fort sep S) : cost sep S = (hs sep S).length := by
  unfold cost
  rw [if_neg h, Nat.add_zero]
/-- the cost hangs on who is there alone -/
theorem cost_same {S S' : List α} (n1 : S.Nodup) (n2 : S'.Nodup) (h : ∀ x, x ∈ S ↔ x ∈ S') : cost sep S = cost sep S' := by
  have e0 : ∀ c, isH sep S c ↔ isH sep S' c := fun c => ⟨fun q => q.mono fun x hx => (h x).mpr hx, fun q => q.mono fun x hx => (h x).mp hx⟩
  have e1 : ∀ c, c ∈ hs sep S ↔ c ∈ hs sep S' := fun c => by rw [mem_hs, mem_hs, h c, e0 c]
  have e2 : (hs sep S).length = (hs sep S').length := len_eq (nd_hs n1) (nd_hs n2) e1
  have e3 : ∀ c u, isH sep (but c S) u ↔ isH sep (but c S') u := fun c u =>
    ⟨fun q => q.mono fun x hx => mem_but.mpr ⟨(h x).mpr (mem_but.mp hx).1, (mem_but.mp hx).2⟩, fun q => q.mono fun x hx => mem_but.mpr ⟨(h x).mp (mem_but.mp hx).1, (mem_but.mp hx).2⟩⟩
  have e4 : ∀ c, great sep S c ↔ great sep S' c := fun c =>
    ⟨fun ⟨u, h1, h2, h3, h4⟩ => ⟨u, (h u).mp h1, h2, (e3 c u).mp h3, fun q => h4 ((e0 u).mpr q)⟩, fun ⟨u, h1, h2, h3, h4⟩ => ⟨u, (h u).mpr h1, h2, (e3 c u).mpr h3, fun q => h4 ((e0 u).mp q)⟩⟩
  have e5 : fort sep S ↔ fort sep S' := by
    unfold fort
    rw [e2]
    exact ⟨fun ⟨a, b⟩ => ⟨a, fun c hc => (e4 c).mp (b c ((e1 c).mpr hc))⟩, fun ⟨a, b⟩ => ⟨a, fun c hc => (e4 c).mpr (b c ((e1 c).mp hc))⟩⟩
  unfold cost
  rw [e2]
  by_cases q : fort sep S
  · rw [if_pos q, if_pos (e5.mp q)]
  · rw [if_neg q, if_neg fun r => q (e5.mpr r)]
variable {U : α → Prop}
theorem add_le {S : List α} {K : α} (nd : (K :: S).Nodup) : cost sep (K :: S) ≤ cost sep S + 1 := by
  obtain ⟨hK, nS⟩ := List.nodup_cons.mp nd
  have sub : ∀ x, x ∈ hs sep (K :: S) → x ∈ K :: hs sep S := fun x hx => by
    obtain ⟨h1, h2⟩ := mem_hs.mp hx
    rcases List.mem_cons.mp h1 with h | h
    · exact h ▸ List.mem_cons_self
    · exact List.mem_cons_of_mem _ (mem_hs.mpr ⟨h, h2.mono fun y hy => List.mem_cons_of_mem _ hy⟩)
  have l1 := sub_len _ _ (nd_hs nd) sub
  rw [List.length_cons] at l1
  have b1 := le_cost (sep := sep) S
  have b2 := cost_le (sep := sep) (K :: S)
  by_cases e : (hs sep (K :: S)).length ≤ (hs sep S).length
  · omega
  · have back := sub_eq (nd_hs nd) sub (by rw [List.length_cons]; omega)
    have nf : ¬ fort sep (K :: S) := fun ⟨_, f⟩ => by
      obtain ⟨u, u1, u2, u3, u4⟩ := f K (back K List.mem_cons_self)
      have uS : u ∈ S := by
        rcases List.mem_cons.mp u1 with h | h
        · exact absurd h u2
        · exact h
      have q : u ∈ hs sep S := mem_hs.mpr ⟨uS, u3.mono fun y hy => mem_but.mpr ⟨List.mem_cons_of_mem _ hy, fun e => hK (e ▸ hy)⟩⟩
      exact u4 (mem_hs.mp (back u (List.mem_cons_of_mem _ q))).2
    rw [cost_nofort nf]
    omega
theorem le_add {S : List α} {K : α} (T : Tree sep U) (hU : ∀ x, x ∈ K :: S → U x) (nd : (K :: S).Nodup) : cost sep S ≤ cost sep (K :: S) := by
  obtain ⟨hK, nS⟩ := List.nodup_cons.mp nd
  have uK : U K := hU K List.mem_cons_self
  have uS : ∀ x, x ∈ S → U x := fun x hx => hU x (List.mem_cons_of_mem _ hx)
  have nK : ∀ x, x ∈ S → x ≠ K := fun x hx e => hK (e ▸ hx)
  -- what a hurdle that is lost does
  have lost : ∀ C, C ∈ hs sep S → ¬ C ∈ hs sep (K :: S) → ∀ b, b ∈ S → b ≠ C → sep C b K := by
    intro C hC hC' b hb nb
    obtain ⟨c1, c2⟩ := mem_hs.mp hC
    have key : ∃ a, a ∈ S ∧ a ≠ C ∧ sep C a K := by
      refine Classical.byContradiction fun q => hC' (mem_hs.mpr ⟨List.mem_cons_of_mem _ c1, fun x hx y hy nx ny s => ?_⟩)
      rcases List.mem_cons.mp hx with h1 | h1
      · rcases List.mem_cons.mp hy with h2 | h2
        · rw [h1, h2] at s
          exact T.irr C K (uS C c1) uK (nK C c1).symm s
        · rw [h1] at s
          exact q ⟨y, h2, ny, T.sym _ _ _ s⟩
      · rcases List.mem_cons.mp hy with h2 | h2
        · rw [h2] at s
          exact q ⟨x, h1, nx, s⟩
        · exact c2 x h1 y h2 nx ny s
    obtain ⟨a, a1, a2, a3⟩ := key
    rcases T.t1 C a K b (uS C c1) (uS a a1) uK (uS b hb) nb a3 with h | h
    · exact absurd h (c2 a a1 b hb a2 nb)
    · exact h
  by_cases some : ∃ C, C ∈ hs sep S ∧ ¬ C ∈ hs sep (K :: S)
  · obtain ⟨C, hC, hC'⟩ := some
    have lC := lost C hC hC'
    have c1 := (mem_hs.mp hC).1
    -- no other is lost
    have keep : ∀ v, v ∈ hs sep S → v ≠ C → v ∈ hs sep (K :: S) := fun v hv nv => Classical.byContradiction fun q => by
      have v1 := (mem_hs.mp hv).1
      have s1 := lC v v1 nv
      have s2 := lost v hv q C c1 nv.symm
      exact T.t2 C v K (uS v v1) uK (uS C c1) (nK v v1) (nK C c1).symm nv s1 (T.sym _ _ _ s2)
    have noK : ∀ a, a ∈ S → a ≠ C → ¬ sep K a C := fun a ha na s =>
      T.t2 C K a uK (uS a ha) (uS C c1) (nK a ha).symm na (nK C c1).symm (T.sym _ _ _ (lC a ha na)) s
    have hK' : K ∈ hs sep (K :: S) := mem_hs.mpr ⟨List.mem_cons_self, fun a ha b hb na nb s => by
      have a1 : a ∈ S := (List.mem_cons.mp ha).resolve_left na
      have b1 : b ∈ S := (List.mem_cons.mp hb).resolve_left nb
      by_cases ea : a = C
      · rw [ea] at s
        by_cases eb : b = C
        · rw [eb] at s
          exact T.irr K C uK (uS C c1) (nK C c1) s
        · exact noK b b1 eb (T.sym _ _ _ s)
      · by_cases eb : b = C
        · rw [eb] at s
          exact noK a a1 ea s
        · rcases T.t1 K a b C uK (uS a a1) (uS b b1) (uS C c1) (nK C c1) s with h | h
          · exact noK a a1 ea h
          · exact noK b b1 eb (T.sym _ _ _ h)⟩
    have sub : ∀ x, x ∈ hs sep S → x ∈ C :: but K (hs sep (K :: S)) := fun x hx => by
      by_cases e : x = C
      · exact e ▸ List.mem_cons_self
      · exact List.mem_cons_of_mem _ (mem_but.mpr ⟨keep x hx e, nK x (mem_hs.mp hx).1⟩)
    have l1 := sub_len _ _ (nd_hs nS) sub
    have l2 := sub_len (K :: but K (hs sep (K :: S))) (hs sep (K :: S)) (List.nodup_cons.mpr ⟨fun q => (mem_but.mp q).2 rfl, (nd_hs nd).filter _⟩) fun x hx => by
      rcases List.mem_cons.mp hx with h | h
      · exact h ▸ hK'
      · exact (mem_but.mp h).1
    rw [List.length_cons] at l1 l2
    have b1 := cost_le (sep := sep) S
    have b2 := le_cost (sep := sep) (K :: S)
    by_cases e : (hs sep S).length + 1 ≤ (hs sep (K :: S)).length
    · omega
    · by_cases f : fort sep S
      · have f' : fort sep (K :: S) := by
          refine ⟨by have := f.1; rwa [show (hs sep (K :: S)).length = (hs sep S).length by omega], fun v hv => ?_⟩
          have sub2 : ∀ x, x ∈ hs sep (K :: S) → x ∈ K :: but K (hs sep (K :: S)) := fun x hx => by
            by_cases e : x = K
            · exact e ▸ List.mem_cons_self
            · exact List.mem_cons_of_mem _ (mem_but.mpr ⟨hx, e⟩)
          have back := sub_eq (nd_hs nS) sub (by
            have := sub_len _ _ (nd_hs nd) sub2
            rw [List.length_cons] at this ⊢
            omega)
          by_cases eK : v = K
          · rw [eK]
            exact ⟨C, List.mem_cons_of_mem _ c1, nK C c1, (mem_hs.mp hC).2.mono fun x hx => by
              obtain ⟨x1, x2⟩ := mem_but.mp hx
              exact (List.mem_cons.mp x1).resolve_left x2, fun q => hC' (mem_hs.mpr ⟨List.mem_cons_of_mem _ c1, q⟩)⟩
          · have vS : v ∈ hs sep S := back v (List.mem_cons_of_mem _ (mem_but.mpr ⟨hv, eK⟩))
            have nvC : v ≠ C := fun q => hC' (q ▸ hv)
            obtain ⟨u, u1, u2, u3, u4⟩ := f.2 v vS
            have nuC : u ≠ C := fun q => u4 (q ▸ (mem_hs.mp hC).2)
            have cBut : C ∈ but v S := mem_but.mpr ⟨c1, nvC.symm⟩
            have noS : ∀ a, a ∈ S → a ≠ v → a ≠ u → ¬ sep u a K := fun a a1 a2 a3 s => by
              have s2 : ¬ sep u a C := u3 a (mem_but.mpr ⟨a1, a2⟩) C cBut a3 nuC.symm
              rcases T.t1 u a K C (uS u u1) (uS a a1) uK (uS C c1) nuC.symm s with h | h
              · exact s2 h
              · exact T.t2 C u K (uS u u1) uK (uS C c1) (nK u u1) (nK C c1).symm nuC (lC u u1 nuC) (T.sym _ _ _ h)
            refine ⟨u, List.mem_cons_of_mem _ u1, u2, fun a ha b hb na nb s => ?_, fun q => u4 (q.mono fun x hx => List.mem_cons_of_mem _ hx)⟩
            obtain ⟨a1, a2⟩ := mem_but.mp ha
            obtain ⟨b1, b2⟩ := mem_but.mp hb
            rcases List.mem_cons.mp a1 with h1 | h1
            · rcases List.mem_cons.mp b1 with h2 | h2
              · rw [h1, h2] at s
                exact T.irr u K (uS u u1) uK (nK u u1).symm s
              · rw [h1] at s
                exact noS b h2 b2 nb (T.sym _ _ _ s)
            · rcases List.mem_cons.mp b1 with h2 | h2
              · rw [h2] at s
                exact noS a h1 a2 na s
              · exact u3 a (mem_but.mpr ⟨h1, a2⟩) b (mem_but.mpr ⟨h2, b2⟩) na nb s
        rw [cost_fort f, cost_fort f']
        omega
      · rw [cost_nofort f]
        omega
  · have sub : ∀ x, x ∈ hs sep S → x ∈ hs sep (K :: S) := fun x hx => Classical.byContradiction fun q => some ⟨x, hx, q⟩
    have l1 := sub_len _ _ (nd_hs nS) sub
    have b1 := cost_le (sep := sep) S
    have b2 := le_cost (sep := sep) (K :: S)
    by_cases e : (hs sep S).length + 1 ≤ (hs sep (K :: S)).length
    · omega
    · by_cases f : fort sep S
      · have back := sub_eq (nd_hs nS) sub (by omega)
        have f' : fort sep (K :: S) := by
          refine ⟨by have := f.1; rwa [show (hs sep (K :: S)).length = (hs sep S).length by omega], fun v hv => ?_⟩
          have vS := back v hv
          have v1 := (mem_hs.mp vS).1
          have hK' : ¬ isH sep (K :: S) K := fun q => hK (mem_hs.mp (back K (mem_hs.mpr ⟨List.mem_cons_self, q⟩))).1
          obtain ⟨u, u1, u2, u3, u4⟩ := f.2 v vS
          by_cases q : isH sep (but v (K :: S)) u
          · exact ⟨u, List.mem_cons_of_mem _ u1, u2, q, fun q => u4 (q.mono fun x hx => List.mem_cons_of_mem _ hx)⟩
          · -- then v is great by K
            have key : ∃ a, a ∈ S ∧ a ≠ v ∧ a ≠ u ∧ sep u a K := by
              refine Classical.byContradiction fun r => q fun a ha b hb na nb s => ?_
              obtain ⟨a1, a2⟩ := mem_but.mp ha
              obtain ⟨b1, b2⟩ := mem_but.mp hb
              rcases List.mem_cons.mp a1 with h1 | h1
              · rcases List.mem_cons.mp b1 with h2 | h2
                · rw [h1, h2] at s
                  exact T.irr u K (uS u u1) uK (nK u u1).symm s
                · rw [h1] at s
                  exact r ⟨b, h2, b2, nb, T.sym _ _ _ s⟩
              · rcases List.mem_cons.mp b1 with h2 | h2
                · rw [h2] at s
                  exact r ⟨a, h1, a2, na, s⟩
                · exact u3 a (mem_but.mpr ⟨h1, a2⟩) b (mem_but.mpr ⟨h2, b2⟩) na nb s
            obtain ⟨a, a1, a2, a3, a4⟩ := key
            have noK : ∀ x, x ∈ S → x ≠ v → x ≠ u → ¬ sep K x u := fun x x1 x2 x3 s => by
              have s2 : ¬ sep u a x := u3 a (mem_but.mpr ⟨a1, a2⟩) x (mem_but.mpr ⟨x1, x2⟩) a3 x3
              have s3 : sep u x K := (T.t1 u a K x (uS u u1) (uS a a1) uK (uS x x1) x3 a4).resolve_left s2
              exact T.t2 u K x uK (uS x x1) (uS u u1) (nK x x1).symm x3 (nK u u1).symm (T.sym _ _ _ s3) s
            refine ⟨K, List.mem_cons_self, (nK v v1).symm, fun p hp r hr np nr s => ?_, hK'⟩
            obtain ⟨p1, p2⟩ := mem_but.mp hp
            obtain ⟨r1, r2⟩ := mem_but.mp hr
            have p3 : p ∈ S := (List.mem_cons.mp p1).resolve_left np
            have r3 : r ∈ S := (List.mem_cons.mp r1).resolve_left nr
            by_cases ep : p = u
            · rw [ep] at s
              by_cases er : r = u
              · rw [er] at s
                exact T.irr K u uK (uS u u1) (nK u u1) s
              · exact noK r r3 r2 er (T.sym _ _ _ s)
            · by_cases er : r = u
              · rw [er] at s
                exact noK p p3 p2 ep s
              · rcases T.t1 K p r u uK (uS p p3) (uS r r3) (uS u u1) (nK u u1) s with h | h
                · exact noK p p3 p2 ep h
                · exact noK r r3 r2 er (T.sym _ _ _ h)
        rw [cost_fort f, cost_fort f']
        omega
      · rw [cost_nofort f]
        omega
theorem le_adds {S : List α} (T : Tree sep U) : ∀ Y : List α, (∀ x, x ∈ Y ++ S → U x) → (Y ++ S).Nodup → cost sep S ≤ cost sep (Y ++ S)
  | [], _, _ => Nat.le_refl _
  | K :: Y, hU, nd => Nat.le_trans (le_adds T Y (fun x hx => hU x (List.mem_cons_of_mem _ hx)) (List.nodup_cons.mp nd).2) (le_add T hU nd)
/-- two new things, and others that part these two -/
theorem add_path {S X : List α} {K1 K2 : α} (nd : (K1 :: K2 :: (X ++ S)).Nodup) (hX : ∀ x, x ∈ X → sep x K1 K2) : cost sep (K1 :: K2 :: (X ++ S)) ≤ cost sep S + 2 := by
  have n0 := List.nodup_cons.mp nd
  have n1 := List.nodup_cons.mp n0.2
  have n2 := List.nodup_append.mp n1.2
  have inS : ∀ x, x ∈ S → x ∈ K1 :: K2 :: (X ++ S) := fun x hx => List.mem_cons_of_mem _ (List.mem_cons_of_mem _ (List.mem_append_right _ hx))
  have ne1 : ∀ x, x ∈ X ++ S → x ≠ K1 := fun x hx e => n0.1 (List.mem_cons_of_mem _ (e ▸ hx))
  have ne2 : ∀ x, x ∈ X ++ S → x ≠ K2 := fun x hx e => n1.1 (e ▸ hx)
  have sub : ∀ x, x ∈ hs sep (K1 :: K2 :: (X ++ S)) → x ∈ K1 :: K2 :: hs sep S := fun x hx => by
    obtain ⟨h1, h2⟩ := mem_hs.mp hx
    rcases List.mem_cons.mp h1 with h | h
    · exact h ▸ List.mem_cons_self
    · rcases List.mem_cons.mp h with h | h
      · exact h ▸ List.mem_cons_of_mem _ List.mem_cons_self
      · rcases List.mem_append.mp h with g | g
        · exact absurd (hX x g) (h2 K1 List.mem_cons_self K2 (List.mem_cons_of_mem _ List.mem_cons_self) (ne1 x h).symm (ne2 x h).symm)
        · exact List.mem_cons_of_mem _ (List.mem_cons_of_mem _ (mem_hs.mpr ⟨g, h2.mono inS⟩))
  have l1 := sub_len _ _ (nd_hs nd) sub
  rw [List.length_cons, List.length_cons] at l1
  have b1 := le_cost (sep := sep) S
  have b2 := cost_le (sep := sep) (K1 :: K2 :: (X ++ S))
  by_cases e : (hs sep (K1 :: K2 :: (X ++ S))).length ≤ (hs sep S).length + 1
  · omega
  · have back := sub_eq (nd_hs nd) sub (by rw [List.length_cons, List.length_cons]; omega)
    by_cases f' : fort sep (K1 :: K2 :: (X ++ S))
    · have f : fort sep S := by
        refine ⟨by have := f'.1; omega, fun v hv => ?_⟩
        have v1 := (mem_hs.mp hv).1
        obtain ⟨u, u1, u2, u3, u4⟩ := f'.2 v (back v (List.mem_cons_of_mem _ (List.mem_cons_of_mem _ hv)))
        have uK1 : u ≠ K1 := fun q => u4 (q ▸ (mem_hs.mp (back K1 List.mem_cons_self)).2)
        have uK2 : u ≠ K2 := fun q => u4 (q ▸ (mem_hs.mp (back K2 (List.mem_cons_of_mem _ List.mem_cons_self))).2)
        have u5 : u ∈ X ++ S := (List.mem_cons.mp ((List.mem_cons.mp u1).resolve_left uK1)).resolve_left uK2
        have vXS : v ∈ X ++ S := List.mem_append_right _ v1
        rcases List.mem_append.mp u5 with g | g
        · exact absurd (hX u g) (u3 K1 (mem_but.mpr ⟨List.mem_cons_self, (ne1 v vXS).symm⟩) K2 (mem_but.mpr ⟨List.mem_cons_of_mem _ List.mem_cons_self, (ne2 v vXS).symm⟩) uK1.symm uK2.symm)
        · exact ⟨u, g, u2, u3.mono fun x hx => mem_but.mpr ⟨inS x (mem_but.mp hx).1, (mem_but.mp hx).2⟩, fun q => u4 (mem_hs.mp (back u (List.mem_cons_of_mem _ (List.mem_cons_of_mem _ (mem_hs.mpr ⟨g, q⟩))))).2⟩
      rw [cost_fort f, cost_fort f']
      omega
    · rw [cost_nofort f']
      omega
/-- the same under other names -/
theorem cost_map {β : Type} {sep' : β → β → β → Prop} (f : α → β) {S : List α} {S' : List β} (nd : S.Nodup) (nd' : S'.Nodup) (inj : ∀ a, a ∈ S → ∀ b, b ∈ S → f a = f b → a = b) (hm : ∀ y, y ∈ S' ↔ ∃ x, x ∈ S ∧ f x = y)
    (hsep : ∀ c, c ∈ S → ∀ a, a ∈ S → ∀ b, b ∈ S → a ≠ c → b ≠ c → (sep c a b ↔ sep' (f c) (f a) (f b))) : cost sep S = cost sep' S' := by
  have ndm : ∀ (R : List α), R.Nodup → (∀ x, x ∈ R → x ∈ S) → (R.map f).Nodup := by
    intro R
    induction R with
    | nil => intro _ _; exact List.nodup_nil
    | cons x r ih =>
      intro h hR
      have h1 := List.nodup_cons.mp h
      rw [List.map_cons]
      refine List.nodup_cons.mpr ⟨fun q => ?_, ih h1.2 fun y hy => hR y (List.mem_cons_of_mem _ hy)⟩
      obtain ⟨y, y1, y2⟩ := List.mem_map.mp q
      have := inj y (hR y (List.mem_cons_of_mem _ y1)) x (hR x List.mem_cons_self) y2
      exact h1.1 (this ▸ y1)
  have hH : ∀ (R : List α) (R' : List β), (∀ x, x ∈ R → x ∈ S) → (∀ y, y ∈ R' ↔ ∃ x, x ∈ R ∧ f x = y) → ∀ c, c ∈ S → (isH sep R c ↔ isH sep' R' (f c)) := by
    intro R R' hR hR' c hc
    constructor
    · intro h a' ha' b' hb' na nb s
      obtain ⟨a, a1, rfl⟩ := (hR' a').mp ha'
      obtain ⟨b, b1, rfl⟩ := (hR' b').mp hb'
      have na2 : a ≠ c := fun e => na (e ▸ rfl)
      have nb2 : b ≠ c := fun e => nb (e ▸ rfl)
      exact h a a1 b b1 na2 nb2 ((hsep c hc a (hR a a1) b (hR b b1) na2 nb2).mpr s)
    · intro h a a1 b b1 na nb s
      exact h (f a) ((hR' _).mpr ⟨a, a1, rfl⟩) (f b) ((hR' _).mpr ⟨b, b1, rfl⟩) (fun e => na (inj a (hR a a1) c hc e)) (fun e => nb (inj b (hR b b1) c hc e)) ((hsep c hc a (hR a a1) b (hR b b1) na nb).mp s)
  have id1 : ∀ x, x ∈ S → x ∈ S := fun _ h => h
  have e1 : ∀ y, y ∈ hs sep' S' ↔ y ∈ (hs sep S).map f := fun y => by
    rw [mem_hs, List.mem_map]
    constructor
    · rintro ⟨h1, h2⟩
      obtain ⟨x, x1, rfl⟩ := (hm y).mp h1
      exact ⟨x, mem_hs.mpr ⟨x1, (hH S S' id1 hm x x1).mpr h2⟩, rfl⟩
    · rintro ⟨x, x1, rfl⟩
      obtain ⟨x2, x3⟩ := mem_hs.mp x1
      exact ⟨(hm _).mpr ⟨x, x2, rfl⟩, (hH S S' id1 hm x x2).mp x3⟩
  have e2 : (hs sep S).length = (hs sep' S').length := by
    rw [len_eq (nd_hs nd') (ndm _ (nd_hs nd) fun x hx => (mem_hs.mp hx).1) e1, List.length_map]
  have hbut : ∀ c, c ∈ S → ∀ y, y ∈ but (f c) S' ↔ ∃ x, x ∈ but c S ∧ f x = y := fun c hc y => by
    rw [mem_but]
    constructor
    · rintro ⟨h1, h2⟩
      obtain ⟨x, x1, rfl⟩ := (hm y).mp h1
      exact ⟨x, mem_but.mpr ⟨x1, fun e => h2 (e ▸ rfl)⟩, rfl⟩
    · rintro ⟨x, x1, rfl⟩
      obtain ⟨x2, x3⟩ := mem_but.mp x1
      exact ⟨(hm _).mpr ⟨x, x2, rfl⟩, fun e => x3 (inj x x2 c hc e)⟩
  have e4 : ∀ c, c ∈ S → (great sep S c ↔ great sep' S' (f c)) := fun c hc => by
    constructor
    · rintro ⟨u, h1, h2, h3, h4⟩
      exact ⟨f u, (hm _).mpr ⟨u, h1, rfl⟩, fun e => h2 (inj u h1 c hc e), (hH _ _ (fun x hx => (mem_but.mp hx).1) (hbut c hc) u h1).mp h3, fun q => h4 ((hH S S' id1 hm u h1).mpr q)⟩
    · rintro ⟨u', h1, h2, h3, h4⟩
      obtain ⟨u, u1, rfl⟩ := (hm u').mp h1
      exact ⟨u, u1, fun e => h2 (e ▸ rfl), (hH _ _ (fun x hx => (mem_but.mp hx).1) (hbut c hc) u u1).mpr h3, fun q => h4 ((hH S S' id1 hm u u1).mp q)⟩
  have e5 : fort sep S ↔ fort sep' S' := by
    unfold fort
    rw [e2]
    constructor
    · rintro ⟨a, b⟩
      refine ⟨a, fun y hy => ?_⟩
      obtain ⟨x, x1, rfl⟩ := List.mem_map.mp ((e1 y).mp hy)
      exact (e4 x (mem_hs.mp x1).1).mp (b x x1)
    · rintro ⟨a, b⟩
      exact ⟨a, fun c hc => (e4 c (mem_hs.mp hc).1).mpr (b (f c) ((e1 _).mpr (List.mem_map.mpr ⟨c, hc, rfl⟩)))⟩
  unfold cost
  rw [e2]
  by_cases q : fort sep S
  · rw [if_pos q, if_pos (e5.mp q)]
  · rw [if_neg q, if_neg fun r => q (e5.mpr r)]
end
end TR

/-! M3 -/
namespace TR
section
variable (n : Nat) (mk sp : Nat → Nat)
/-- the part of x parts a from b -/
def sepS (x a b : Nat) : Prop := ∃ c1 c2, Cn n mk sp x c1 ∧ Cn n mk sp x c2 ∧ ¬ (btw c1 c2 a ↔ btw c1 c2 b)
/-- a spot of the light line k -/
def cl (k : Nat) : Nat := sp (2 * k)
def Rep (k : Nat) : Prop := k < n + 1 ∧ ∀ j, j < k → ¬ Cn n mk sp (cl sp j) (cl sp k)
def sepN (c a b : Nat) : Prop := sepS n mk sp (cl sp c) (cl sp a) (cl sp b)
def Bad (x : Nat) : Prop := (∀ y, Cn n mk sp x y → (y + lp mk sp y) % 2 = 1) ∧ ∃ y, Cn n mk sp x y ∧ y ≠ x ∧ y ≠ lp mk sp x
open Classical in
noncomputable def bads : List Nat := (List.range (n + 1)).filter fun k => decide (Rep n mk sp k ∧ Bad n mk sp (cl sp k))
end
section
variable {n : Nat} {mk sp : Nat → Nat}
open Classical in
theorem mem_bads {k : Nat} : k ∈ bads n mk sp ↔ Rep n mk sp k ∧ Bad n mk sp (cl sp k) := by
  unfold bads
  rw [List.mem_filter, decide_eq_true_iff, List.mem_range]
  exact ⟨fun h => h.2, fun h => ⟨h.1.1, h⟩⟩
theorem nd_bads : (bads n mk sp).Nodup := List.nodup_range.filter _
theorem cl_lt (D : Dr n mk sp) {k : Nat} (h : k < n + 1) : cl sp k < 2 * n + 2 := D.sp_lt _ (by omega)
theorem Cn.sy (D : Dr n mk sp) {x y : Nat} (hx : x < 2 * n + 2) (h : Cn n mk sp x y) : Cn n mk sp y x := Con.symm D.ivl hx h
theorem Cn.lt (D : Dr n mk sp) {x y : Nat} (hx : x < 2 * n + 2) (h : Cn n mk sp x y) : y < 2 * n + 2 := Con.bd D.ivl hx h
/-- a spot's own line -/
theorem cn_line (D : Dr n mk sp) {s : Nat} (h : s < 2 * n + 2) : Cn n mk sp s (cl sp (mk s / 2)) := by
  have hm := D.mk_lt s h
  rcases Nat.mod_two_eq_zero_or_one (mk s) with e | e
  · have : 2 * (mk s / 2) = mk s := by omega
    unfold cl
    rw [this, D.sp_mk s h]
    exact .refl
  · have e2 : 2 * (mk s / 2) = dk (mk s) := by
      unfold dk
      rw [if_neg (by omega)]
      omega
    unfold cl
    rw [e2]
    exact Con.lp .refl
/-- each spot's part has a line that stands for it -/
theorem ex_rep (D : Dr n mk sp) {s : Nat} (h : s < 2 * n + 2) : ∃ k, Rep n mk sp k ∧ Cn n mk sp s (cl sp k) := by
  have key : ∀ m k, k ≤ m → k < n + 1 → Cn n mk sp s (cl sp k) → ∃ k, Rep n mk sp k ∧ Cn n mk sp s (cl sp k) := by
    intro m
    induction m with
    | zero =>
      intro k h1 h2 h3
      exact ⟨k, ⟨h2, fun j hj => by omega⟩, h3⟩
    | succ m ih =>
      intro k h1 h2 h3
      by_cases q : ∃ j, j < k ∧ Cn n mk sp (cl sp j) (cl sp k)
      · obtain ⟨j, j1, j2⟩ := q
        exact ih j (by omega) (by omega) (h3.trans (j2.sy D (cl_lt D (by omega))))
      · exact ⟨k, ⟨h2, fun j hj hc => q ⟨j, hj, hc⟩⟩, h3⟩
  have hm := D.mk_lt s h
  exact key (mk s / 2) (mk s / 2) (Nat.le_refl _) (by omega) (cn_line D h)
theorem rep_eq (D : Dr n mk sp) {a b : Nat} (ha : Rep n mk sp a) (hb : Rep n mk sp b) (h : Cn n mk sp (cl sp a) (cl sp b)) : a = b := by
  rcases Nat.lt_trichotomy a b with q | q | q
  · exact absurd h (hb.2 a q)
  · exact q
  · exact absurd (h.sy D (cl_lt D ha.1)) (ha.2 b q)
theorem sepS_sym {x a b : Nat} (h : sepS n mk sp x a b) : sepS n mk sp x b a := by
  obtain ⟨c1, c2, h1, h2, h3⟩ := h
  exact ⟨c1, c2, h1, h2, fun q => h3 q.symm⟩
theorem nest_iff (D : Dr n mk sp) {x c1 c2 a b : Nat} (hx : x < 2 * n + 2) (ha : a < 2 * n + 2) (h1 : Cn n mk sp x c1) (h2 : Cn n mk sp x c2) (hab : Cn n mk sp a b) (hn : ¬ Cn n mk sp x a) : btw c1 c2 a ↔ btw c1 c2 b := by
  have hc1 := h1.lt D hx
  have hb := hab.lt D ha
  exact ⟨fun q => nest D.ivl hc1 ha ((h1.sy D hx).trans h2) hab (fun r => hn (h1.trans r)) q, fun q => nest D.ivl hc1 hb ((h1.sy D hx).trans h2) (hab.sy D ha) (fun r => hn ((h1.trans r).trans (hab.sy D ha))) q⟩
/-- who is parted hangs on the parts alone -/
theorem sepS_of (D : Dr n mk sp) {x a b x' a' b' : Nat} (hx : x < 2 * n + 2) (ha : a < 2 * n + 2) (hb : b < 2 * n + 2) (ex : Cn n mk sp x x') (ea : Cn n mk sp a a') (eb : Cn n mk sp b b')
    (na : ¬ Cn n mk sp x a) (nb : ¬ Cn n mk sp x b) (h : sepS n mk sp x a b) : sepS n mk sp x' a' b' := by
  obtain ⟨c1, c2, h1, h2, h3⟩ := h
  have s := ex.sy D hx
  refine ⟨c1, c2, s.trans h1, s.trans h2, fun q => h3 ?_⟩
  rw [nest_iff D hx ha h1 h2 ea na, nest_iff D hx hb h1 h2 eb nb]
  exact q
theorem btw_comm (p q s : Nat) : btw p q s ↔ btw q p s := by unfold btw; omega
theorem t2_lt {c1 c2 a1 a2 b : Nat} (hc : c1 ≤ c2) (ha : a1 ≤ a2) (e1 : btw c1 c2 a1 ↔ btw c1 c2 a2) (e3 : btw a1 a2 c1 ↔ btw a1 a2 c2) (h : ¬ (btw c1 c2 a1 ↔ btw c1 c2 b)) (k : ¬ (btw a1 a2 b ↔ btw a1 a2 c1))
    (d1 : a1 ≠ c1) (d2 : a1 ≠ c2) (d3 : a2 ≠ c1) (d4 : a2 ≠ c2) (d5 : b ≠ c1) (d6 : b ≠ c2) (d7 : b ≠ a1) (d8 : b ≠ a2) : False := by
  have f : ∀ p q s : Nat, p ≤ q → (btw p q s ↔ p < s ∧ s < q) := fun p q s h => by unfold btw; omega
  rw [f _ _ _ hc, f _ _ _ hc] at e1 h
  rw [f _ _ _ ha, f _ _ _ ha] at e3 k
  by_cases p : c1 < a1 ∧ a1 < c2
  · have p2 := e1.mp p
    have p3 : ¬ (c1 < b ∧ b < c2) := fun q => h ⟨fun _ => q, fun _ => p⟩
    by_cases r : a1 < c1 ∧ c1 < a2
    · omega
    · have r2 : a1 < b ∧ b < a2 := Classical.byContradiction fun q => k ⟨fun z => absurd z q, fun z => absurd z r⟩
      omega
  · have p2 : ¬ (c1 < a2 ∧ a2 < c2) := fun q => p (e1.mpr q)
    have p3 : c1 < b ∧ b < c2 := Classical.byContradiction fun q => h ⟨fun z => absurd z p, fun z => absurd z q⟩
    by_cases r : a1 < c1 ∧ c1 < a2
    · have r2 := e3.mp r
      have r3 : ¬ (a1 < b ∧ b < a2) := fun q => k ⟨fun _ => r, fun _ => q⟩
      omega
    · have r2 : a1 < b ∧ b < a2 := Classical.byContradiction fun q => k ⟨fun z => absurd z q, fun z => absurd z r⟩
      omega
theorem t2_nat {c1 c2 a1 a2 b : Nat} (e1 : btw c1 c2 a1 ↔ btw c1 c2 a2) (e3 : btw a1 a2 c1 ↔ btw a1 a2 c2) (h : ¬ (btw c1 c2 a1 ↔ btw c1 c2 b)) (k : ¬ (btw a1 a2 b ↔ btw a1 a2 c1))
    (d1 : a1 ≠ c1) (d2 : a1 ≠ c2) (d3 : a2 ≠ c1) (d4 : a2 ≠ c2) (d5 : b ≠ c1) (d6 : b ≠ c2) (d7 : b ≠ a1) (d8 : b ≠ a2) : False := by
  rcases Nat.le_total c1 c2 with hc | hc <;> rcases Nat.le_total a1 a2 with ha | ha
  · exact t2_lt hc ha e1 e3 h k d1 d2 d3 d4 d5 d6 d7 d8
  · simp only [btw_comm a1 a2] at e3 k
    exact t2_lt hc ha e1.symm e3 (fun q => h (e1.trans q)) k d3 d4 d1 d2 d5 d6 d8 d7
  · simp only [btw_comm c1 c2] at e1 h
    exact t2_lt hc ha e1 e3.symm h (fun q => k (q.trans e3.symm)) d2 d1 d4 d3 d6 d5 d7 d8
  · simp only [btw_comm a1 a2] at e3 k
    simp only [btw_comm c1 c2] at e1 h
    exact t2_lt hc ha e1.symm e3.symm (fun q => h (e1.trans q)) (fun q => k (q.trans e3.symm)) d4 d3 d2 d1 d6 d5 d8 d7
theorem sep_t2 (D : Dr n mk sp) {c a b : Nat} (hc : c < 2 * n + 2) (ha : a < 2 * n + 2) (hb : b < 2 * n + 2) (nca : ¬ Cn n mk sp c a) (ncb : ¬ Cn n mk sp c b) (nab : ¬ Cn n mk sp a b) (h : sepS n mk sp c a b) : ¬ sepS n mk sp a b c := by
  rintro ⟨a1, a2, k1, k2, k3⟩
  obtain ⟨c1, c2, h1, h2, h3⟩ := h
  have nac : ¬ Cn n mk sp a c := fun q => nca (q.sy D ha)
  have e1 := nest_iff D hc ha h1 h2 k1 nca
  have e2 := nest_iff D hc ha h1 h2 k2 nca
  have e3 := nest_iff D ha hc k1 k2 h1 nac
  have e4 := nest_iff D ha hc k1 k2 h2 nac
  have d1 : a1 ≠ c1 := fun e => nca (h1.trans ((e ▸ k1).sy D ha))
  have d2 : a1 ≠ c2 := fun e => nca (h2.trans ((e ▸ k1).sy D ha))
  have d3 : a2 ≠ c1 := fun e => nca (h1.trans ((e ▸ k2).sy D ha))
  have d4 : a2 ≠ c2 := fun e => nca (h2.trans ((e ▸ k2).sy D ha))
  have d5 : b ≠ c1 := fun e => ncb (e ▸ h1)
  have d6 : b ≠ c2 := fun e => ncb (e ▸ h2)
  have d7 : b ≠ a1 := fun e => nab (e ▸ k1)
  have d8 : b ≠ a2 := fun e => nab (e ▸ k2)
  exact t2_nat (e1.symm.trans e2) (e3.symm.trans e4) (fun q => h3 (e1.trans q)) (fun q => k3 (q.trans e3.symm)) d1 d2 d3 d4 d5 d6 d7 d8
theorem tree (D : Dr n mk sp) : Tree (sepN n mk sp) (Rep n mk sp) where
  sym := fun _ _ _ h => sepS_sym h
  irr := fun _ _ _ _ _ ⟨_, _, _, _, h⟩ => h Iff.rfl
  t1 := fun c a b d _ _ _ _ _ ⟨c1, c2, h1, h2, h3⟩ => by
    by_cases q : (btw c1 c2 (cl sp a) ↔ btw c1 c2 (cl sp d))
    · exact .inr ⟨c1, c2, h1, h2, fun r => h3 (q.trans r)⟩
    · exact .inl ⟨c1, c2, h1, h2, q⟩
  t2 := fun c a b ua ub uc nab nbc nac h => sep_t2 D (cl_lt D uc.1) (cl_lt D ua.1) (cl_lt D ub.1) (fun q => nac (rep_eq D uc ua q).symm) (fun q => nbc (rep_eq D uc ub q).symm) (fun q => nab (rep_eq D ua ub q)) h
end
/-! ### a turn: the spots of a stretch are turned around -/
def rho (i d s : Nat) : Nat := if 2 * i + 1 ≤ s ∧ s ≤ 2 * d then 2 * i + 1 + 2 * d - s else s
def inW (i d s : Nat) : Prop := 2 * i + 1 ≤ s ∧ s ≤ 2 * d
theorem rho_rho (i d s : Nat) : rho i d (rho i d s) = s := by unfold rho; grind
theorem rho_lt {n i d s : Nat} (hd : d ≤ n) (h : s < 2 * n + 2) : rho i d s < 2 * n + 2 := by unfold rho; grind
theorem rho_inW (i d s : Nat) : inW i d (rho i d s) ↔ inW i d s := by unfold rho inW; grind
theorem rho_inj {i d s t : Nat} (h : rho i d s = rho i d t) : s = t := by rw [← rho_rho i d s, h, rho_rho]
theorem rho_in {i d s : Nat} (h : 2 * i + 1 ≤ s ∧ s ≤ 2 * d) : rho i d s = 2 * i + 1 + 2 * d - s := if_pos h
theorem rho_out {i d s : Nat} (h : ¬ (2 * i + 1 ≤ s ∧ s ≤ 2 * d)) : rho i d s = s := if_neg h
theorem pc_ev {n s : Nat} (h0 : s ≠ 0) (h1 : s ≠ 2 * n + 1) (h2 : s % 2 = 0) : pc n s = s - 1 := by unfold pc; rw [if_neg h0, if_neg h1, if_pos h2]
theorem pc_od {n s : Nat} (h0 : s ≠ 0) (h1 : s ≠ 2 * n + 1) (h2 : ¬ s % 2 = 0) : pc n s = s + 1 := by unfold pc; rw [if_neg h0, if_neg h1, if_neg h2]
theorem rho_pc {n i d s : Nat} (hi : i < d) (hd : d ≤ n) (h : s < 2 * n + 2) : rho i d (pc n s) = pc n (rho i d s) := by
  by_cases e0 : s = 0
  · subst e0
    have : pc n 0 = 2 * n + 1 := if_pos rfl
    rw [rho_out (s := 0) (by omega), this, rho_out (by omega)]
  · by_cases e1 : s = 2 * n + 1
    · subst e1
      have : pc n (2 * n + 1) = 0 := by unfold pc; rw [if_neg (by omega), if_pos rfl]
      rw [rho_out (s := 2 * n + 1) (by omega), this, rho_out (by omega)]
    · by_cases e2 : s % 2 = 0
      · rw [pc_ev e0 e1 e2]
        by_cases w : 2 * i + 1 ≤ s ∧ s ≤ 2 * d
        · rw [rho_in w, rho_in (by omega), pc_od (by omega) (by omega) (by omega)]
          omega
        · rw [rho_out w, rho_out (by omega), pc_ev e0 e1 e2]
      · rw [pc_od e0 e1 e2]
        by_cases w : 2 * i + 1 ≤ s ∧ s ≤ 2 * d
        · rw [rho_in w, rho_in (by omega), pc_ev (by omega) (by omega) (by omega)]
          omega
        · rw [rho_out w, rho_out (by omega), pc_od e0 e1 e2]
theorem btw_turn {i d y y' : Nat} (h : inW i d y ↔ inW i d y') (z : Nat) : btw y y' z ↔ btw (rho i d y) (rho i d y') (rho i d z) := by
  unfold inW at h
  by_cases w : 2 * i + 1 ≤ y ∧ y ≤ 2 * d
  · have w2 := h.mp w
    rw [rho_in w, rho_in w2]
    by_cases w3 : 2 * i + 1 ≤ z ∧ z ≤ 2 * d
    · rw [rho_in w3]
      unfold btw
      omega
    · rw [rho_out w3]
      unfold btw
      omega
  · have w2 : ¬ (2 * i + 1 ≤ y' ∧ y' ≤ 2 * d) := fun q => w (h.mpr q)
    rw [rho_out w, rho_out w2]
    by_cases w3 : 2 * i + 1 ≤ z ∧ z ≤ 2 * d
    · rw [rho_in w3]
      unfold btw
      omega
    · rw [rho_out w3]
theorem rho_par {i d s t : Nat} (h : inW i d s ↔ inW i d t) : (rho i d s + rho i d t) % 2 = (s + t) % 2 := by
  unfold inW at h
  unfold rho
  split <;> split <;> omega
section
variable {n i d : Nat} {mk sp : Nat → Nat}
theorem Dr.turn (D : Dr n mk sp) (hi : i < d) (hd : d ≤ n) : Dr n (fun s => mk (rho i d s)) (fun m => rho i d (sp m)) where
  mk_lt := fun s h => D.mk_lt _ (rho_lt hd h)
  sp_lt := fun s h => rho_lt hd (D.sp_lt s h)
  sp_mk := fun s h => by rw [D.sp_mk _ (rho_lt hd h), rho_rho]
  mk_sp := fun s h => by rw [rho_rho, D.mk_sp s h]
  mk_pc := fun s h => by rw [rho_pc hi hd h, D.mk_pc _ (rho_lt hd h)]
abbrev mkT (i d : Nat) (mk : Nat → Nat) : Nat → Nat := fun s => mk (rho i d s)
abbrev spT (i d : Nat) (sp : Nat → Nat) : Nat → Nat := fun m => rho i d (sp m)
theorem lp_turn (s : Nat) : lp (mkT i d mk) (spT i d sp) (rho i d s) = rho i d (lp mk sp s) := by
  unfold lp mkT spT
  rw [rho_rho]
/-- the part of x has no line with one end in the stretch -/
def Calm (n : Nat) (mk sp : Nat → Nat) (i d x : Nat) : Prop := ∀ y, Cn n mk sp x y → (inW i d y ↔ inW i d (lp mk sp y))
theorem Calm.side (D : Dr n mk sp) {x y : Nat} (hx : x < 2 * n + 2) (h : Calm n mk sp i d x) (hy : Cn n mk sp x y) : inW i d x ↔ inW i d y := by
  induction hy with
  | refl => exact Iff.rfl
  | @lp z hz ih => exact ih.trans (h z hz)
  | @cr z w hz hw hc ih =>
    have e1 := h z hz
    have e2 := h w (.cr hz hw hc)
    refine ih.trans ?_
    unfold Cr btw at hc
    unfold inW at *
    grind
/-- only two lines that both leave the stretch change whether they cross -/
theorem cr_turn1 {y z : Nat} (h : inW i d y ↔ inW i d (lp mk sp y)) : Cr (lp mk sp) y z ↔ Cr (lp (mkT i d mk) (spT i d sp)) (rho i d y) (rho i d z) := by
  unfold Cr
  rw [lp_turn, lp_turn, ← btw_turn h, ← btw_turn h]
theorem cr_turn (D : Dr n mk sp) (hi : i < d) (hd : d ≤ n) {y z : Nat} (hy : y < 2 * n + 2) (hz : z < 2 * n + 2) (h : (inW i d y ↔ inW i d (lp mk sp y)) ∨ (inW i d z ↔ inW i d (lp mk sp z))) : Cr (lp mk sp) y z ↔ Cr (lp (mkT i d mk) (spT i d sp)) (rho i d y) (rho i d z) := by
  have I := D.ivl
  have I' := (D.turn hi hd).ivl
  rcases h with h | h
  · exact cr_turn1 h
  · exact ⟨fun q => Cr.symm I' (rho_lt hd hz) (rho_lt hd hy) ((cr_turn1 h).mp (q.symm I hy hz)), fun q => Cr.symm I hz hy ((cr_turn1 h).mpr (q.symm I' (rho_lt hd hy) (rho_lt hd hz)))⟩
theorem calm_to (D : Dr n mk sp) (hd : d ≤ n) {x y : Nat} (h : Calm n mk sp i d x) (hy : Cn n mk sp x y) : Cn n (mkT i d mk) (spT i d sp) (rho i d x) (rho i d y) := by
  induction hy with
  | refl => exact .refl
  | @lp z hz ih =>
    have := ih.lp
    rwa [lp_turn] at this
  | @cr z w hz hw hc ih => exact ih.cr (rho_lt hd hw) ((cr_turn1 (h z hz)).mp hc)
theorem calm_back (D : Dr n mk sp) (hd : d ≤ n) {x y : Nat} (h : Calm n mk sp i d x) (hy : Cn n (mkT i d mk) (spT i d sp) (rho i d x) y) : Cn n mk sp x (rho i d y) := by
  induction hy with
  | refl => rw [rho_rho]; exact .refl
  | @lp z hz ih =>
    have := ih.lp
    have e := lp_turn (i := i) (d := d) (mk := mk) (sp := sp) (rho i d z)
    rw [rho_rho] at e
    rw [e, rho_rho]
    exact this
  | @cr z w hz hw hc ih =>
    have e := cr_turn1 (i := i) (d := d) (mk := mk) (sp := sp) (y := rho i d z) (z := rho i d w) (h _ ih)
    rw [rho_rho, rho_rho] at e
    exact ih.cr (rho_lt hd hw) (e.mpr hc)
theorem calm_iff (D : Dr n mk sp) (hd : d ≤ n) {x y : Nat} (h : Calm n mk sp i d x) : Cn n mk sp x y ↔ Cn n (mkT i d mk) (spT i d sp) (rho i d x) (rho i d y) :=
  ⟨calm_to D hd h, fun q => by
    have := calm_back D hd h q
    rwa [rho_rho] at this⟩
theorem calm_bad (D : Dr n mk sp) (hd : d ≤ n) {x : Nat} (h : Calm n mk sp i d x) (hb : Bad n mk sp x) : Bad n (mkT i d mk) (spT i d sp) (rho i d x) := by
  obtain ⟨h1, y, y1, y2, y3⟩ := hb
  refine ⟨fun z hz => ?_, rho i d y, calm_to D hd h y1, fun e => y2 (rho_inj e), fun e => y3 ?_⟩
  · have c := calm_back D hd h hz
    have e := lp_turn (i := i) (d := d) (mk := mk) (sp := sp) (rho i d z)
    rw [rho_rho] at e
    rw [e]
    have := rho_par (h _ c)
    rw [rho_rho] at this
    rw [this]
    exact h1 _ c
  · rw [lp_turn] at e
    exact rho_inj e
theorem calm_sep (D : Dr n mk sp) (hd : d ≤ n) {x a b : Nat} (hx : x < 2 * n + 2) (h : Calm n mk sp i d x) : sepS n mk sp x a b ↔ sepS n (mkT i d mk) (spT i d sp) (rho i d x) (rho i d a) (rho i d b) := by
  have key : ∀ c1 c2 a, Cn n mk sp x c1 → Cn n mk sp x c2 → (btw c1 c2 a ↔ btw (rho i d c1) (rho i d c2) (rho i d a)) := fun c1 c2 a h1 h2 => by
    exact btw_turn ((h.side D hx h1).symm.trans (h.side D hx h2)) a
  constructor
  · rintro ⟨c1, c2, h1, h2, h3⟩
    refine ⟨_, _, calm_to D hd h h1, calm_to D hd h h2, ?_⟩
    rwa [← key c1 c2 a h1 h2, ← key c1 c2 b h1 h2]
  · rintro ⟨c1, c2, h1, h2, h3⟩
    have k1 := calm_back D hd h h1
    have k2 := calm_back D hd h h2
    refine ⟨_, _, k1, k2, ?_⟩
    rwa [key _ _ a k1 k2, key _ _ b k1 k2, rho_rho, rho_rho]
/-- the parts of the two dark lines where the stretch ends are touched -/
theorem not_calm (D : Dr n mk sp) (hi : i < d) (hd : d ≤ n) {x : Nat} (hx : x < 2 * n + 2) (h : Cn n mk sp x (2 * i) ∨ Cn n mk sp x (2 * d)) : ¬ Calm n mk sp i d x := by
  intro c
  rcases h with h | h
  · have q := h.trans (con_dk D (by omega))
    have e : dk (2 * i) = 2 * i + 1 := by unfold dk; rw [if_pos (by omega)]
    rw [e] at q
    have s1 := c.side D hx h
    have s2 := c.side D hx q
    unfold inW at s1 s2
    omega
  · have q := h.trans (con_dk D (by omega))
    have e : dk (2 * d) = 2 * d + 1 := by unfold dk; rw [if_pos (by omega)]
    rw [e] at q
    have s1 := c.side D hx h
    have s2 := c.side D hx q
    unfold inW at s1 s2
    omega
/-- another part that is touched parts the one from the other -/
theorem touched_sep (D : Dr n mk sp) (hi : i < d) (hd : d ≤ n) {x : Nat} (hx : x < 2 * n + 2) (h : ¬ Calm n mk sp i d x) (n1 : ¬ Cn n mk sp x (2 * i)) (n2 : ¬ Cn n mk sp x (2 * d)) : sepS n mk sp x (2 * i) (2 * d) := by
  have h' : ∃ y, Cn n mk sp x y ∧ ¬ (inW i d y ↔ inW i d (lp mk sp y)) := Classical.byContradiction fun q => h fun y hy => Classical.byContradiction fun r => q ⟨y, hy, r⟩
  obtain ⟨y, y1, y2⟩ := h'
  have e1 : dk (2 * i) = 2 * i + 1 := by unfold dk; rw [if_pos (by omega)]
  have e2 : dk (2 * d) = 2 * d + 1 := by unfold dk; rw [if_pos (by omega)]
  have m1 : ¬ Cn n mk sp x (2 * i + 1) := fun q => n1 (by
    have := q.trans (con_dk D (x := 2 * i + 1) (by omega))
    rwa [← e1, dk_dk] at this)
  have m2 : ¬ Cn n mk sp x (2 * d + 1) := fun q => n2 (by
    have := q.trans (con_dk D (x := 2 * d + 1) (by omega))
    rwa [← e2, dk_dk] at this)
  have y3 := y1.lp
  refine ⟨y, lp mk sp y, y1, y3, ?_⟩
  have d1 : y ≠ 2 * i := fun e => n1 (e ▸ y1)
  have d2 : y ≠ 2 * d := fun e => n2 (e ▸ y1)
  have d3 : y ≠ 2 * i + 1 := fun e => m1 (e ▸ y1)
  have d4 : y ≠ 2 * d + 1 := fun e => m2 (e ▸ y1)
  have f1 : lp mk sp y ≠ 2 * i := fun e => n1 (e ▸ y3)
  have f2 : lp mk sp y ≠ 2 * d := fun e => n2 (e ▸ y3)
  have f3 : lp mk sp y ≠ 2 * i + 1 := fun e => m1 (e ▸ y3)
  have f4 : lp mk sp y ≠ 2 * d + 1 := fun e => m2 (e ▸ y3)
  unfold inW at y2
  unfold btw
  omega
/-- where both dark lines are of one part no other is touched -/
theorem touched_one (D : Dr n mk sp) (hi : i < d) (hd : d ≤ n) {x : Nat} (hx : x < 2 * n + 2) (h : ¬ Calm n mk sp i d x) (hk : Cn n mk sp (2 * i) (2 * d)) : Cn n mk sp x (2 * i) := by
  refine Classical.byContradiction fun n1 => ?_
  have n2 : ¬ Cn n mk sp x (2 * d) := fun q => n1 (q.trans (hk.sy D (by omega)))
  obtain ⟨c1, c2, h1, h2, h3⟩ := touched_sep D hi hd hx h n1 n2
  exact h3 (nest_iff D hx (by omega) h1 h2 hk n1)
end
end TR

/-! M4 -/
namespace TR
/-! ### how many classes -/
structure Eqv (N : Nat) (r : Nat → Nat → Prop) : Prop where
  refl : ∀ s, s < N → r s s
  symm : ∀ s t, s < N → t < N → r s t → r t s
  trans : ∀ s t u, s < N → t < N → u < N → r s t → r t u → r s u
open Classical in
noncomputable def reps (N : Nat) (r : Nat → Nat → Prop) : List Nat := (List.range N).filter fun s => decide (∀ t, t < s → ¬ r t s)
noncomputable def ncl (N : Nat) (r : Nat → Nat → Prop) : Nat := (reps N r).length
open Classical in
theorem mem_reps {N : Nat} {r : Nat → Nat → Prop} {s : Nat} : s ∈ reps N r ↔ s < N ∧ ∀ t, t < s → ¬ r t s := by
  unfold reps
  rw [List.mem_filter, decide_eq_true_iff, List.mem_range]
theorem nd_reps (N : Nat) (r : Nat → Nat → Prop) : (reps N r).Nodup := List.nodup_range.filter _
theorem inj_len {α β : Type} {l1 : List α} {l2 : List β} (g : α → β) (nd : l1.Nodup) (h : ∀ x, x ∈ l1 → g x ∈ l2) (inj : ∀ x, x ∈ l1 → ∀ y, y ∈ l1 → g x = g y → x = y) : l1.length ≤ l2.length := by
  have ndm : ∀ (R : List α), R.Nodup → (∀ x, x ∈ R → x ∈ l1) → (R.map g).Nodup := by
    intro R
    induction R with
    | nil => intro _ _; exact List.nodup_nil
    | cons x r ih =>
      intro h hR
      have h1 := List.nodup_cons.mp h
      rw [List.map_cons]
      refine List.nodup_cons.mpr ⟨fun q => ?_, ih h1.2 fun y hy => hR y (List.mem_cons_of_mem _ hy)⟩
      obtain ⟨y, y1, y2⟩ := List.mem_map.mp q
      have := inj y (hR y (List.mem_cons_of_mem _ y1)) x (hR x List.mem_cons_self) y2
      exact h1.1 (this ▸ y1)
  have := sub_len (l1.map g) l2 (ndm l1 nd fun _ h => h) fun y hy => by
    obtain ⟨x, x1, rfl⟩ := List.mem_map.mp hy
    exact h x x1
  rwa [List.length_map] at this
section
variable {N : Nat} {r r' : Nat → Nat → Prop}
theorem Eqv.rep (E : Eqv N r) {s : Nat} (h : s < N) : ∃ m, m ∈ reps N r ∧ r m s := by
  induction s using Nat.strongRecOn with
  | ind s ih =>
    by_cases q : ∃ t, t < s ∧ r t s
    · obtain ⟨t, t1, t2⟩ := q
      obtain ⟨m, m1, m2⟩ := ih t t1 (by omega)
      exact ⟨m, m1, E.trans _ _ _ (mem_reps.mp m1).1 (by omega) h m2 t2⟩
    · exact ⟨s, mem_reps.mpr ⟨h, fun t h1 h2 => q ⟨t, h1, h2⟩⟩, E.refl s h⟩
theorem Eqv.uniq (E : Eqv N r) {a b : Nat} (ha : a ∈ reps N r) (hb : b ∈ reps N r) (h : r a b) : a = b := by
  obtain ⟨a1, a2⟩ := mem_reps.mp ha
  obtain ⟨b1, b2⟩ := mem_reps.mp hb
  rcases Nat.lt_trichotomy a b with q | q | q
  · exact absurd h (b2 a q)
  · exact q
  · exact absurd (E.symm _ _ a1 b1 h) (a2 b q)
theorem ncl_le (E : Eqv N r) (E' : Eqv N r') (f : Nat → Nat) (hf : ∀ s, s < N → f s < N) (h : ∀ s t, s < N → t < N → r' (f s) (f t) → r s t) : ncl N r ≤ ncl N r' := by
  have ch : ∀ s, ∃ m, s < N → m ∈ reps N r' ∧ r' m (f s) := fun s => by
    by_cases q : s < N
    · obtain ⟨m, m1, m2⟩ := E'.rep (hf s q)
      exact ⟨m, fun _ => ⟨m1, m2⟩⟩
    · exact ⟨0, fun q2 => absurd q2 q⟩
  refine inj_len (fun s => (ch s).choose) (nd_reps N r) (fun s hs => ((ch s).choose_spec (mem_reps.mp hs).1).1) fun s hs t ht e => ?_
  have s1 := (mem_reps.mp hs).1
  have t1 := (mem_reps.mp ht).1
  obtain ⟨a1, a2⟩ := (ch s).choose_spec s1
  obtain ⟨b1, b2⟩ := (ch t).choose_spec t1
  have e2 : (ch s).choose = (ch t).choose := e
  rw [← e2] at b1 b2
  have hm := (mem_reps.mp a1).1
  exact E.uniq hs ht (h s t s1 t1 (E'.trans _ _ _ (hf s s1) hm (hf t t1) (E'.symm _ _ hm (hf s s1) a2) b2))
theorem ncl_anti (E : Eqv N r) (E' : Eqv N r') (h : ∀ s t, s < N → t < N → r' s t → r s t) : ncl N r ≤ ncl N r' := ncl_le E E' id (fun _ h => h) h
/-- one more joint joins at most two classes -/
theorem ncl_join (E : Eqv N r) (E' : Eqv N r') {x y : Nat} (hx : x < N) (hy : y < N) (h : ∀ s t, s < N → t < N → r' s t → r s t ∨ (r s x ∧ r y t) ∨ (r s y ∧ r x t)) : ncl N r ≤ ncl N r' + 1 := by
  obtain ⟨m, m1, m2⟩ := E.rep hy
  have mN := (mem_reps.mp m1).1
  have ch : ∀ s, ∃ m, s < N → m ∈ reps N r' ∧ r' m s := fun s => by
    by_cases q : s < N
    · obtain ⟨m, m1, m2⟩ := E'.rep q
      exact ⟨m, fun _ => ⟨m1, m2⟩⟩
    · exact ⟨0, fun q2 => absurd q2 q⟩
  have off : ∀ s, s ∈ (reps N r).erase m → s ∈ reps N r ∧ ¬ r y s := fun s hs => by
    obtain ⟨n1, n2⟩ := (nd_reps N r).mem_erase_iff.mp hs
    have sN := (mem_reps.mp n2).1
    exact ⟨n2, fun q => n1 (E.uniq m1 n2 (E.trans _ _ _ mN hy sN m2 q)).symm⟩
  have key := inj_len (l2 := reps N r') (fun s => (ch s).choose) ((nd_reps N r).erase m) (fun s hs => ((ch s).choose_spec (mem_reps.mp (off s hs).1).1).1) fun s hs t ht e => by
    obtain ⟨s0, s9⟩ := off s hs
    obtain ⟨t0, t9⟩ := off t ht
    have s1 := (mem_reps.mp s0).1
    have t1 := (mem_reps.mp t0).1
    obtain ⟨a1, a2⟩ := (ch s).choose_spec s1
    obtain ⟨b1, b2⟩ := (ch t).choose_spec t1
    have e2 : (ch s).choose = (ch t).choose := e
    rw [← e2] at b1 b2
    have hm := (mem_reps.mp a1).1
    have st := E'.trans _ _ _ s1 hm t1 (E'.symm _ _ hm s1 a2) b2
    rcases h s t s1 t1 st with q | q | q
    · exact E.uniq s0 t0 q
    · exact absurd q.2 t9
    · exact absurd (E.symm _ _ s1 hy q.1) s9
  rw [List.length_erase_of_mem m1] at key
  unfold ncl
  omega
/-- a joint between two classes -/
theorem ncl_less (E : Eqv N r) (E' : Eqv N r') (h : ∀ s t, s < N → t < N → r s t → r' s t) {x y : Nat} (hx : x < N) (hy : y < N) (h1 : r' x y) (h2 : ¬ r x y) : ncl N r' + 1 ≤ ncl N r := by
  obtain ⟨a, a1, a2⟩ := E.rep hx
  obtain ⟨b, b1, b2⟩ := E.rep hy
  have aN := (mem_reps.mp a1).1
  have bN := (mem_reps.mp b1).1
  have sub : ∀ s, s ∈ reps N r' → s ∈ reps N r := fun s hs => by
    obtain ⟨s1, s2⟩ := mem_reps.mp hs
    exact mem_reps.mpr ⟨s1, fun t h3 h4 => s2 t h3 (h t s (by omega) s1 h4)⟩
  have ab : r' a b := E'.trans _ _ _ aN hx bN (h _ _ aN hx a2) (E'.trans _ _ _ hx hy bN h1 (E'.symm _ _ bN hy (h _ _ bN hy b2)))
  have ne : a ≠ b := fun e => h2 (E.trans _ _ _ hx aN hy (E.symm _ _ aN hx a2) (e ▸ b2))
  have one : ∃ m, m ∈ reps N r ∧ ¬ m ∈ reps N r' := by
    rcases Nat.lt_or_gt_of_ne ne with q | q
    · exact ⟨b, b1, fun z => (mem_reps.mp z).2 a q ab⟩
    · exact ⟨a, a1, fun z => (mem_reps.mp z).2 b q (E'.symm _ _ aN bN ab)⟩
  obtain ⟨m, m1, m2⟩ := one
  have := sub_len (m :: reps N r') (reps N r) (List.nodup_cons.mpr ⟨m2, nd_reps N r'⟩) fun s hs => by
    rcases List.mem_cons.mp hs with q | q
    · exact q ▸ m1
    · exact sub s q
  rw [List.length_cons] at this
  exact this
end
/-! ### rings -/
inductive Rn (f g : Nat → Nat) (x : Nat) : Nat → Prop
  | refl : Rn f g x x
  | f {y : Nat} : Rn f g x y → Rn f g x (f y)
  | g {y : Nat} : Rn f g x y → Rn f g x (g y)
section
variable {N : Nat} {f g : Nat → Nat}
theorem Rn.trans {x y z : Nat} (h : Rn f g x y) (h2 : Rn f g y z) : Rn f g x z := by
  induction h2 with
  | refl => exact h
  | f _ ih => exact ih.f
  | g _ ih => exact ih.g
theorem Rn.bd (hf : ∀ s, s < N → f s < N) (hg : ∀ s, s < N → g s < N) {x y : Nat} (hx : x < N) (h : Rn f g x y) : y < N := by
  induction h with
  | refl => exact hx
  | f _ ih => exact hf _ ih
  | g _ ih => exact hg _ ih
theorem Rn.eqv (hf : ∀ s, s < N → f s < N ∧ f (f s) = s) (hg : ∀ s, s < N → g s < N ∧ g (g s) = s) : Eqv N (Rn f g) where
  refl := fun _ _ => .refl
  symm := fun s t hs _ h => by
    induction h with
    | refl => exact .refl
    | @f y h ih =>
      have hy := h.bd (fun s h => (hf s h).1) (fun s h => (hg s h).1) hs
      have q := Rn.f (f := f) (g := g) (x := f y) .refl
      rw [(hf y hy).2] at q
      exact q.trans (ih hy)
    | @g y h ih =>
      have hy := h.bd (fun s h => (hf s h).1) (fun s h => (hg s h).1) hs
      have q := Rn.g (f := f) (g := g) (x := g y) .refl
      rw [(hg y hy).2] at q
      exact q.trans (ih hy)
  trans := fun _ _ _ _ _ _ h k => h.trans k
end
/-! ### pairs in a list -/
theorem pair_ind {L : Nat → Nat} (P : List Nat → Prop) (Q : Nat → Prop) (h0 : P []) (hp : ∀ l l' : List Nat, l.Perm l' → P l → P l') (hc : ∀ x r, Q x → P r → P (x :: L x :: r)) :
    ∀ m (l : List Nat), l.length ≤ m → l.Nodup → (∀ x, x ∈ l → L x ∈ l ∧ L x ≠ x ∧ L (L x) = x ∧ Q x) → P l
  | 0, l, hm, _, _ => by
    have : l = [] := List.length_eq_zero_iff.mp (by omega)
    rw [this]
    exact h0
  | m + 1, [], _, _, _ => h0
  | m + 1, x :: r, hm, nd, hl => by
    obtain ⟨x1, x2, x3, x4⟩ := hl x List.mem_cons_self
    have n := List.nodup_cons.mp nd
    have xr : L x ∈ r := (List.mem_cons.mp x1).resolve_left x2
    have pe : r.Perm (L x :: r.erase (L x)) := List.perm_cons_erase xr
    have ne := n.2.erase (L x)
    refine hp (x :: L x :: r.erase (L x)) (x :: r) (List.Perm.cons x pe.symm) (hc x _ x4 (pair_ind P Q h0 hp hc m _ ?_ ne fun y hy => ?_))
    · rw [List.length_erase_of_mem xr]
      rw [List.length_cons] at hm
      omega
    · obtain ⟨y1, y2⟩ := n.2.mem_erase_iff.mp hy
      obtain ⟨z1, z2, z3, z4⟩ := hl y (List.mem_cons_of_mem _ y2)
      refine ⟨n.2.mem_erase_iff.mpr ⟨fun e => ?_, (List.mem_cons.mp z1).resolve_left fun e => ?_⟩, z2, z3, z4⟩
      · have : y = x := by rw [← z3, e, x3]
        exact n.1 (this ▸ y2)
      · exact y1 (by rw [← z3, e])
theorem even_len {L : Nat → Nat} {l : List Nat} (nd : l.Nodup) (h : ∀ x, x ∈ l → L x ∈ l ∧ L x ≠ x ∧ L (L x) = x) : l.length % 2 = 0 :=
  pair_ind (L := L) (fun l => l.length % 2 = 0) (fun _ => True) rfl (fun l l' p h => by rw [← p.length_eq]; exact h) (fun x r _ h => by rw [List.length_cons, List.length_cons]; omega) l.length l (Nat.le_refl _) nd fun x hx => ⟨(h x hx).1, (h x hx).2.1, (h x hx).2.2, trivial⟩
abbrev ev (s : Nat) : Bool := s % 2 == 0
abbrev od (s : Nat) : Bool := s % 2 == 1
theorem half_len {L : Nat → Nat} {l : List Nat} (nd : l.Nodup) (h : ∀ x, x ∈ l → L x ∈ l ∧ L x ≠ x ∧ L (L x) = x ∧ (x + L x) % 2 = 1) : l.countP ev = l.countP od :=
  pair_ind (L := L) (fun l => l.countP ev = l.countP od) (fun x => (x + L x) % 2 = 1) rfl (fun l l' p h => by rw [← p.countP_eq, ← p.countP_eq]; exact h) (fun x r q h => by
    rw [List.countP_cons, List.countP_cons, List.countP_cons, List.countP_cons, h]
    unfold ev od
    rcases Nat.mod_two_eq_zero_or_one x with e | e
    · have e2 : L x % 2 = 1 := by omega
      simp [e, e2]
    · have e2 : L x % 2 = 0 := by omega
      simp [e, e2]) l.length l (Nat.le_refl _) nd h
/-! ### two dark lines are changed -/
def dk0 (i d s : Nat) : Nat := if s / 2 = i ∨ s / 2 = d then s else dk s
def dkT (i d s : Nat) : Nat := rho i d (dk (rho i d s))
section
variable {n i d : Nat} {mk sp : Nat → Nat}
theorem dk0_in {s : Nat} (h : s / 2 = i ∨ s / 2 = d) : dk0 i d s = s := if_pos h
theorem dk0_out {s : Nat} (h : ¬ (s / 2 = i ∨ s / 2 = d)) : dk0 i d s = dk s := if_neg h
theorem dk0_iv (s : Nat) : dk0 i d (dk0 i d s) = s := by
  by_cases h : s / 2 = i ∨ s / 2 = d
  · rw [dk0_in h, dk0_in h]
  · rw [dk0_out h, dk0_out (by rw [dk_half]; exact h), dk_dk]
theorem dk0_lt {s : Nat} (h : s < 2 * n + 2) : dk0 i d s < 2 * n + 2 := by
  by_cases q : s / 2 = i ∨ s / 2 = d
  · rw [dk0_in q]
    exact h
  · rw [dk0_out q]
    exact dk_lt h
theorem dk_ev {s : Nat} (h : s % 2 = 0) : dk s = s + 1 := if_pos h
theorem dk_od {s : Nat} (h : s % 2 = 1) : dk s = s - 1 := if_neg (by omega)
theorem dkT_out (hi : i < d) {s : Nat} (h : ¬ (s / 2 = i ∨ s / 2 = d)) : dkT i d s = dk s := by
  unfold dkT
  by_cases w : 2 * i + 1 ≤ s ∧ s ≤ 2 * d
  · rw [rho_in w]
    rcases Nat.mod_two_eq_zero_or_one s with e | e
    · rw [dk_od (by omega), dk_ev e, rho_in (by omega)]
      omega
    · rw [dk_ev (by omega), dk_od e, rho_in (by omega)]
      omega
  · rw [rho_out w]
    rcases Nat.mod_two_eq_zero_or_one s with e | e
    · rw [dk_ev e, rho_out (by omega)]
    · rw [dk_od e, rho_out (by omega)]
theorem dkT_a (hi : i < d) : dkT i d (2 * i) = 2 * d := by
  have h1 : rho i d (2 * i) = 2 * i := rho_out (by omega)
  have h2 : dk (2 * i) = 2 * i + 1 := dk_ev (by omega)
  have h3 : rho i d (2 * i + 1) = 2 * d := by
    rw [rho_in (by omega)]
    omega
  unfold dkT
  rw [h1, h2, h3]
theorem dkT_c (hi : i < d) : dkT i d (2 * d) = 2 * i := by
  have h1 : rho i d (2 * d) = 2 * i + 1 := by
    rw [rho_in (by omega)]
    omega
  have h2 : dk (2 * i + 1) = 2 * i := dk_od (by omega)
  have h3 : rho i d (2 * i) = 2 * i := rho_out (by omega)
  unfold dkT
  rw [h1, h2, h3]
theorem dkT_b (hi : i < d) : dkT i d (2 * i + 1) = 2 * d + 1 := by
  have h1 : rho i d (2 * i + 1) = 2 * d := by
    rw [rho_in (by omega)]
    omega
  have h2 : dk (2 * d) = 2 * d + 1 := dk_ev (by omega)
  have h3 : rho i d (2 * d + 1) = 2 * d + 1 := rho_out (by omega)
  unfold dkT
  rw [h1, h2, h3]
theorem dkT_d (hi : i < d) : dkT i d (2 * d + 1) = 2 * i + 1 := by
  have h1 : rho i d (2 * d + 1) = 2 * d + 1 := rho_out (by omega)
  have h2 : dk (2 * d + 1) = 2 * d := dk_od (by omega)
  have h3 : rho i d (2 * d) = 2 * i + 1 := by
    rw [rho_in (by omega)]
    omega
  unfold dkT
  rw [h1, h2, h3]
theorem sp_cases {s : Nat} (h : s / 2 = i ∨ s / 2 = d) : s = 2 * i ∨ s = 2 * i + 1 ∨ s = 2 * d ∨ s = 2 * d + 1 := by omega
abbrev R0 (i d : Nat) (mk sp : Nat → Nat) := Rn (lp mk sp) (dk0 i d)
abbrev R1 (mk sp : Nat → Nat) := Rn (lp mk sp) dk
abbrev R2 (i d : Nat) (mk sp : Nat → Nat) := Rn (lp mk sp) (dkT i d)
theorem e0 (D : Dr n mk sp) : Eqv (2 * n + 2) (R0 i d mk sp) := Rn.eqv (fun s h => ⟨D.ivl.bd s h, D.ivl.inv s h⟩) fun s h => ⟨dk0_lt h, dk0_iv s⟩
theorem e1 (D : Dr n mk sp) : Eqv (2 * n + 2) (R1 mk sp) := Rn.eqv (fun s h => ⟨D.ivl.bd s h, D.ivl.inv s h⟩) fun s h => ⟨dk_lt h, dk_dk s⟩
theorem e2 (D : Dr n mk sp) (hd : d ≤ n) : Eqv (2 * n + 2) (R2 i d mk sp) := Rn.eqv (fun s h => ⟨D.ivl.bd s h, D.ivl.inv s h⟩) fun s h => ⟨rho_lt hd (dk_lt (rho_lt hd h)), by unfold dkT; rw [rho_rho, dk_dk, rho_rho]⟩
theorem r01 {s t : Nat} (h : R0 i d mk sp s t) : R1 mk sp s t := by
  induction h with
  | refl => exact .refl
  | f _ ih => exact ih.f
  | @g y _ ih =>
    by_cases q : y / 2 = i ∨ y / 2 = d
    · rw [dk0_in q]
      exact ih
    · rw [dk0_out q]
      exact ih.g
theorem r02 (hi : i < d) {s t : Nat} (h : R0 i d mk sp s t) : R2 i d mk sp s t := by
  induction h with
  | refl => exact .refl
  | f _ ih => exact ih.f
  | @g y _ ih =>
    by_cases q : y / 2 = i ∨ y / 2 = d
    · rw [dk0_in q]
      exact ih
    · rw [dk0_out q, ← dkT_out hi q]
      exact ih.g
theorem r1_con (D : Dr n mk sp) {s t : Nat} (hs : s < 2 * n + 2) (h : R1 mk sp s t) : Cn n mk sp s t := by
  induction h with
  | refl => exact .refl
  | f _ ih => exact ih.lp
  | @g y h ih => exact ih.trans (con_dk D (ih.lt D hs))
open Classical in
noncomputable def T0 (n i d : Nat) (mk sp : Nat → Nat) (z : Nat) : List Nat := (List.range (2 * n + 2)).filter fun s => decide (R0 i d mk sp z s)
open Classical in
theorem mem_T0 {z s : Nat} : s ∈ T0 n i d mk sp z ↔ s < 2 * n + 2 ∧ R0 i d mk sp z s := by
  unfold T0
  rw [List.mem_filter, decide_eq_true_iff, List.mem_range]
abbrev spec (i d s : Nat) : Bool := s / 2 == i || s / 2 == d
theorem spec_iff {s : Nat} : spec i d s = true ↔ (s / 2 = i ∨ s / 2 = d) := by unfold spec; rw [Bool.or_eq_true, beq_iff_eq, beq_iff_eq]
open Classical in
noncomputable def ends (i d : Nat) (mk sp : Nat → Nat) (z : Nat) : List Nat := [2 * i, 2 * i + 1, 2 * d, 2 * d + 1].filter fun s => decide (R0 i d mk sp z s)
theorem T0_rest (z : Nat) : ∀ x, x ∈ (T0 n i d mk sp z).filter (fun s => !spec i d s) → dk x ∈ (T0 n i d mk sp z).filter (fun s => !spec i d s) ∧ dk x ≠ x ∧ dk (dk x) = x ∧ (x + dk x) % 2 = 1 := by
  intro x hx
  obtain ⟨h1, h2⟩ := List.mem_filter.mp hx
  obtain ⟨h3, h4⟩ := mem_T0.mp h1
  have h5 : ¬ (x / 2 = i ∨ x / 2 = d) := fun q => by
    rw [spec_iff.mpr q] at h2
    cases h2
  refine ⟨List.mem_filter.mpr ⟨mem_T0.mpr ⟨dk_lt h3, ?_⟩, ?_⟩, dk_ne x, dk_dk x, by have := dk_par x; omega⟩
  · rw [← dk0_out h5]
    exact h4.g
  · have : spec i d (dk x) = false := by
      unfold spec
      rw [dk_half]
      cases e : spec i d x with
      | true => exact absurd (spec_iff.mp e) h5
      | false => exact e
    rw [this]
    rfl
open Classical in
theorem T0_ends (hi : i < d) (hd : d ≤ n) (z : Nat) : ((T0 n i d mk sp z).filter (spec i d)).Perm (ends i d mk sp z) := by
  refine (List.perm_ext_iff_of_nodup ((List.nodup_range.filter _).filter _) (List.Pairwise.filter _ ?_)).mpr fun s => ?_
  · show List.Nodup [2 * i, 2 * i + 1, 2 * d, 2 * d + 1]
    simp only [List.nodup_cons, List.mem_cons, List.not_mem_nil, or_false, not_or, List.nodup_nil, not_false_eq_true, and_true]
    omega
  · show s ∈ (T0 n i d mk sp z).filter (spec i d) ↔ s ∈ ends i d mk sp z
    unfold ends
    rw [List.mem_filter, List.mem_filter, mem_T0, spec_iff, decide_eq_true_iff]
    simp only [List.mem_cons, List.not_mem_nil, or_false]
    constructor
    · rintro ⟨⟨h1, h2⟩, h3⟩
      exact ⟨by omega, h2⟩
    · rintro ⟨h1, h2⟩
      exact ⟨⟨by omega, h2⟩, by omega⟩
theorem ends_even (D : Dr n mk sp) (hi : i < d) (hd : d ≤ n) (z : Nat) : (ends i d mk sp z).length % 2 = 0 := by
  have a := even_len (L := lp mk sp) (l := T0 n i d mk sp z) (List.nodup_range.filter _) fun x hx => by
    obtain ⟨h3, h4⟩ := mem_T0.mp hx
    exact ⟨mem_T0.mpr ⟨D.ivl.bd x h3, h4.f⟩, D.ivl.ne x h3, D.ivl.inv x h3⟩
  have b := even_len (L := dk) (l := (T0 n i d mk sp z).filter (fun s => !spec i d s)) ((List.nodup_range.filter _).filter _) fun x hx => ⟨(T0_rest z x hx).1, (T0_rest z x hx).2.1, (T0_rest z x hx).2.2.1⟩
  have c := List.countP_eq_countP_filter_add (T0 n i d mk sp z) (fun _ => true) (spec i d)
  simp only [List.countP_true] at c
  rw [← (T0_ends hi hd z).length_eq]
  omega
theorem ends_half (D : Dr n mk sp) (hi : i < d) (hd : d ≤ n) (z : Nat) (h : ∀ s, s < 2 * n + 2 → R0 i d mk sp z s → (s + lp mk sp s) % 2 = 1) : (ends i d mk sp z).countP ev = (ends i d mk sp z).countP od := by
  have a := half_len (L := lp mk sp) (l := T0 n i d mk sp z) (List.nodup_range.filter _) fun x hx => by
    obtain ⟨h3, h4⟩ := mem_T0.mp hx
    exact ⟨mem_T0.mpr ⟨D.ivl.bd x h3, h4.f⟩, D.ivl.ne x h3, D.ivl.inv x h3, h x h3 h4⟩
  have b := half_len (L := dk) (l := (T0 n i d mk sp z).filter (fun s => !spec i d s)) ((List.nodup_range.filter _).filter _) (T0_rest z)
  have c := List.countP_eq_countP_filter_add (T0 n i d mk sp z) ev (spec i d)
  have c2 := List.countP_eq_countP_filter_add (T0 n i d mk sp z) od (spec i d)
  rw [(T0_ends hi hd z).countP_eq] at c c2
  omega
open Classical in
theorem ends_len (z : Nat) : (ends i d mk sp z).length = (if R0 i d mk sp z (2 * i) then 1 else 0) + (if R0 i d mk sp z (2 * i + 1) then 1 else 0) + (if R0 i d mk sp z (2 * d) then 1 else 0) + (if R0 i d mk sp z (2 * d + 1) then 1 else 0) := by
  unfold ends
  simp only [List.filter_cons, List.filter_nil, decide_eq_true_eq]
  split <;> split <;> split <;> split <;> rfl
open Classical in
theorem ends_ac (nab : ¬ R0 i d mk sp (2 * i) (2 * i + 1)) (nad : ¬ R0 i d mk sp (2 * i) (2 * d + 1)) (ac : R0 i d mk sp (2 * i) (2 * d)) : ends i d mk sp (2 * i) = [2 * i, 2 * d] := by
  have raa : R0 i d mk sp (2 * i) (2 * i) := .refl
  unfold ends
  simp only [List.filter_cons, List.filter_nil, decide_eq_true_eq]
  rw [if_pos raa, if_neg nab, if_pos ac, if_neg nad]
/-- the three ways in which the four ends are joined when both dark lines are taken out -/
theorem three (D : Dr n mk sp) (hi : i < d) (hd : d ≤ n) :
    (R0 i d mk sp (2 * i) (2 * i + 1) ∧ R0 i d mk sp (2 * d) (2 * d + 1)) ∨ (¬ R0 i d mk sp (2 * i) (2 * i + 1) ∧ ¬ R0 i d mk sp (2 * i) (2 * d + 1) ∧ R0 i d mk sp (2 * i) (2 * d) ∧ R0 i d mk sp (2 * i + 1) (2 * d + 1)) ∨
      (¬ R0 i d mk sp (2 * i) (2 * i + 1) ∧ ¬ R0 i d mk sp (2 * i) (2 * d) ∧ R0 i d mk sp (2 * i) (2 * d + 1) ∧ R0 i d mk sp (2 * i + 1) (2 * d)) := by
  have E := e0 (i := i) (d := d) D
  have ha : 2 * i < 2 * n + 2 := by omega
  have hb : 2 * i + 1 < 2 * n + 2 := by omega
  have hc : 2 * d < 2 * n + 2 := by omega
  have he : 2 * d + 1 < 2 * n + 2 := by omega
  have q1 := ends_even D hi hd (2 * i)
  have q2 := ends_even D hi hd (2 * i + 1)
  have q3 := ends_even D hi hd (2 * d)
  rw [ends_len] at q1 q2 q3
  have raa : R0 i d mk sp (2 * i) (2 * i) := .refl
  have rbb : R0 i d mk sp (2 * i + 1) (2 * i + 1) := .refl
  have rcc : R0 i d mk sp (2 * d) (2 * d) := .refl
  rw [if_pos raa] at q1
  rw [if_pos rbb] at q2
  rw [if_pos rcc] at q3
  by_cases ab : R0 i d mk sp (2 * i) (2 * i + 1)
  · have ba := E.symm _ _ ha hb ab
    refine .inl ⟨ab, ?_⟩
    by_cases ac : R0 i d mk sp (2 * i) (2 * d)
    · by_cases ad : R0 i d mk sp (2 * i) (2 * d + 1)
      · exact (E.symm _ _ ha hc ac).trans ad
      · rw [if_pos ab, if_pos ac, if_neg ad] at q1
        omega
    · have ca : ¬ R0 i d mk sp (2 * d) (2 * i) := fun q => ac (E.symm _ _ hc ha q)
      have cb : ¬ R0 i d mk sp (2 * d) (2 * i + 1) := fun q => ca (q.trans ba)
      rw [if_neg ca, if_neg cb] at q3
      by_cases cd : R0 i d mk sp (2 * d) (2 * d + 1)
      · exact cd
      · rw [if_neg cd] at q3
        omega
  · rw [if_neg ab] at q1
    have ba : ¬ R0 i d mk sp (2 * i + 1) (2 * i) := fun q => ab (E.symm _ _ hb ha q)
    rw [if_neg ba] at q2
    by_cases ac : R0 i d mk sp (2 * i) (2 * d)
    · by_cases ad : R0 i d mk sp (2 * i) (2 * d + 1)
      · rw [if_pos ac, if_pos ad] at q1
        omega
      · have bc : ¬ R0 i d mk sp (2 * i + 1) (2 * d) := fun q => ba (q.trans (E.symm _ _ ha hc ac))
        rw [if_neg bc] at q2
        by_cases bd : R0 i d mk sp (2 * i + 1) (2 * d + 1)
        · exact .inr (.inl ⟨ab, ad, ac, bd⟩)
        · rw [if_neg bd] at q2
          omega
    · by_cases ad : R0 i d mk sp (2 * i) (2 * d + 1)
      · have bd : ¬ R0 i d mk sp (2 * i + 1) (2 * d + 1) := fun q => ba (q.trans (E.symm _ _ ha he ad))
        rw [if_neg bd] at q2
        by_cases bc : R0 i d mk sp (2 * i + 1) (2 * d)
        · exact .inr (.inr ⟨ab, ac, ad, bc⟩)
        · rw [if_neg bc] at q2
          omega
      · rw [if_neg ac, if_neg ad] at q1
        omega
theorem r1_of (D : Dr n mk sp) (hi : i < d) (hd : d ≤ n) {a b : Nat} (P : Nat → Nat → Prop) (ab : (a = 2 * i ∧ b = 2 * i + 1)) (h1 : P (2 * d) (2 * d + 1)) (h2 : P (2 * d + 1) (2 * d)) (hP : ∀ x y, P x y ↔ R0 i d mk sp x y ∨ (R0 i d mk sp x a ∧ R0 i d mk sp b y) ∨ (R0 i d mk sp x b ∧ R0 i d mk sp a y))
    {s t : Nat} (hs : s < 2 * n + 2) (h : R1 mk sp s t) : R0 i d mk sp s t ∨ (R0 i d mk sp s a ∧ R0 i d mk sp b t) ∨ (R0 i d mk sp s b ∧ R0 i d mk sp a t) := by
  have E := e0 (i := i) (d := d) D
  obtain ⟨rfl, rfl⟩ := ab
  have ha : 2 * i < 2 * n + 2 := by omega
  have hb : 2 * i + 1 < 2 * n + 2 := by omega
  have hc : 2 * d < 2 * n + 2 := by omega
  have he : 2 * d + 1 < 2 * n + 2 := by omega
  rw [hP] at h1 h2
  have comp : ∀ x y z, x < 2 * n + 2 → y < 2 * n + 2 → (R0 i d mk sp x y ∨ (R0 i d mk sp x (2 * i) ∧ R0 i d mk sp (2 * i + 1) y) ∨ (R0 i d mk sp x (2 * i + 1) ∧ R0 i d mk sp (2 * i) y)) →
      (R0 i d mk sp y z ∨ (R0 i d mk sp y (2 * i) ∧ R0 i d mk sp (2 * i + 1) z) ∨ (R0 i d mk sp y (2 * i + 1) ∧ R0 i d mk sp (2 * i) z)) →
      (R0 i d mk sp x z ∨ (R0 i d mk sp x (2 * i) ∧ R0 i d mk sp (2 * i + 1) z) ∨ (R0 i d mk sp x (2 * i + 1) ∧ R0 i d mk sp (2 * i) z)) := by
    intro x y z hx hy p q
    rcases p with p | ⟨p1, p2⟩ | ⟨p1, p2⟩
    · rcases q with q | ⟨q1, q2⟩ | ⟨q1, q2⟩
      · exact .inl (p.trans q)
      · exact .inr (.inl ⟨p.trans q1, q2⟩)
      · exact .inr (.inr ⟨p.trans q1, q2⟩)
    · rcases q with q | ⟨q1, q2⟩ | ⟨q1, q2⟩
      · exact .inr (.inl ⟨p1, p2.trans q⟩)
      · exact .inr (.inl ⟨p1, q2⟩)
      · exact .inl (p1.trans q2)
    · rcases q with q | ⟨q1, q2⟩ | ⟨q1, q2⟩
      · exact .inr (.inr ⟨p1, p2.trans q⟩)
      · exact .inl (p1.trans q2)
      · exact .inr (.inr ⟨p1, q2⟩)
  induction h with
  | refl => exact .inl .refl
  | @f y h ih =>
    rcases ih with p | ⟨p1, p2⟩ | ⟨p1, p2⟩
    · exact .inl p.f
    · exact .inr (.inl ⟨p1, p2.f⟩)
    · exact .inr (.inr ⟨p1, p2.f⟩)
  | @g y h ih =>
    have hy : y < 2 * n + 2 := h.bd D.ivl.bd (fun s h => dk_lt h) hs
    refine comp s y (dk y) hs hy ih ?_
    by_cases q : y / 2 = i ∨ y / 2 = d
    · rcases sp_cases q with e | e | e | e <;> subst e
      · rw [dk_ev (by omega)]
        exact .inr (.inl ⟨.refl, .refl⟩)
      · rw [dk_od (by omega), Nat.add_sub_cancel]
        exact .inr (.inr ⟨.refl, .refl⟩)
      · rw [dk_ev (by omega)]
        exact h1
      · rw [dk_od (by omega), Nat.add_sub_cancel]
        exact h2
    · have := Rn.g (f := lp mk sp) (g := dk0 i d) (x := y) .refl
      rw [dk0_out q] at this
      exact .inl this
/-- how the number of rings may change -/
theorem rings_turn (D : Dr n mk sp) (hi : i < d) (hd : d ≤ n) :
    ncl (2 * n + 2) (R2 i d mk sp) ≤ ncl (2 * n + 2) (R1 mk sp) + 1 ∧
    (¬ R1 mk sp (2 * i) (2 * d) → ncl (2 * n + 2) (R2 i d mk sp) + 1 ≤ ncl (2 * n + 2) (R1 mk sp)) ∧
    ((∀ s, s < 2 * n + 2 → R1 mk sp (2 * i) s → (s + lp mk sp s) % 2 = 1) → ncl (2 * n + 2) (R2 i d mk sp) ≤ ncl (2 * n + 2) (R1 mk sp)) := by
  have E := e0 (i := i) (d := d) D
  have E1 := e1 D
  have E2 := e2 (i := i) D hd
  have ha : 2 * i < 2 * n + 2 := by omega
  have hb : 2 * i + 1 < 2 * n + 2 := by omega
  have hc : 2 * d < 2 * n + 2 := by omega
  have he : 2 * d + 1 < 2 * n + 2 := by omega
  have ac2 : R2 i d mk sp (2 * i) (2 * d) := by
    have := Rn.g (f := lp mk sp) (g := dkT i d) (x := 2 * i) .refl
    rwa [dkT_a hi] at this
  have g2 : ncl (2 * n + 2) (R2 i d mk sp) ≤ ncl (2 * n + 2) (R0 i d mk sp) := ncl_anti E2 E fun s t _ _ h => r02 hi h
  have cd1 : R1 mk sp (2 * d) (2 * d + 1) := by
    have := Rn.g (f := lp mk sp) (g := dk) (x := 2 * d) .refl
    rwa [dk_ev (by omega)] at this
  have dc1 := E1.symm _ _ hc he cd1
  rcases three D hi hd with ⟨ab, cd⟩ | ⟨nab, nad, ac, bd⟩ | ⟨nab, nac, ad, bc⟩
  · have ba := E.symm _ _ ha hb ab
    have dc := E.symm _ _ hc he cd
    have g1 : ncl (2 * n + 2) (R0 i d mk sp) ≤ ncl (2 * n + 2) (R1 mk sp) := ncl_anti E E1 fun s t hs ht h => by
      rcases r1_of D hi hd (a := 2 * i) (b := 2 * i + 1) (fun x y => R0 i d mk sp x y ∨ (R0 i d mk sp x (2 * i) ∧ R0 i d mk sp (2 * i + 1) y) ∨ (R0 i d mk sp x (2 * i + 1) ∧ R0 i d mk sp (2 * i) y)) ⟨rfl, rfl⟩ (.inl cd) (.inl dc) (fun _ _ => Iff.rfl) hs h with p | ⟨p1, p2⟩ | ⟨p1, p2⟩
      · exact p
      · exact (p1.trans ab).trans p2
      · exact (p1.trans ba).trans p2
    refine ⟨by omega, fun q => ?_, fun _ => by omega⟩
    have := ncl_less E E2 (fun s t _ _ h => r02 hi h) ha hc ac2 fun z => q (r01 z)
    omega
  · have ca := E.symm _ _ ha hc ac
    have db := E.symm _ _ hb he bd
    have g1 := ncl_join E E1 ha hb fun s t hs ht h => r1_of D hi hd (a := 2 * i) (b := 2 * i + 1) (fun x y => R0 i d mk sp x y ∨ (R0 i d mk sp x (2 * i) ∧ R0 i d mk sp (2 * i + 1) y) ∨ (R0 i d mk sp x (2 * i + 1) ∧ R0 i d mk sp (2 * i) y)) ⟨rfl, rfl⟩ (.inr (.inl ⟨ca, bd⟩)) (.inr (.inr ⟨db, ac⟩)) (fun _ _ => Iff.rfl) hs h
    refine ⟨by omega, fun q => absurd (r01 ac) q, fun h => ?_⟩
    exfalso
    have hh := ends_half D hi hd (2 * i) fun s hs h2 => h s hs (r01 h2)
    have e := ends_ac nab nad ac
    rw [e] at hh
    have v1 : ev (2 * i) = true := by unfold ev; rw [beq_iff_eq]; omega
    have v2 : ev (2 * d) = true := by unfold ev; rw [beq_iff_eq]; omega
    have o1 : od (2 * i) = false := by unfold od; rw [beq_eq_false_iff_ne]; omega
    have o2 : od (2 * d) = false := by unfold od; rw [beq_eq_false_iff_ne]; omega
    simp only [List.countP_cons, List.countP_nil, v1, v2, o1, o2] at hh
    simp at hh
  · have da := E.symm _ _ ha he ad
    have cb := E.symm _ _ hb hc bc
    have g1 := ncl_join E E1 ha hb fun s t hs ht h => r1_of D hi hd (a := 2 * i) (b := 2 * i + 1) (fun x y => R0 i d mk sp x y ∨ (R0 i d mk sp x (2 * i) ∧ R0 i d mk sp (2 * i + 1) y) ∨ (R0 i d mk sp x (2 * i + 1) ∧ R0 i d mk sp (2 * i) y)) ⟨rfl, rfl⟩ (.inr (.inr ⟨cb, ad⟩)) (.inr (.inl ⟨da, bc⟩)) (fun _ _ => Iff.rfl) hs h
    have g3 := ncl_less E E2 (fun s t _ _ h => r02 hi h) ha hc ac2 nac
    refine ⟨by omega, fun q => absurd ((r01 ad).trans dc1) q, fun _ => by omega⟩
theorem rn_turn {s t : Nat} (h : Rn (lp (mkT i d mk) (spT i d sp)) dk s t) : R2 i d mk sp (rho i d s) (rho i d t) := by
  induction h with
  | refl => exact .refl
  | @f y _ ih =>
    have := ih.f
    have e := lp_turn (i := i) (d := d) (mk := mk) (sp := sp) (rho i d y)
    rw [rho_rho] at e
    rwa [e, rho_rho]
  | @g y _ ih =>
    have := ih.g
    unfold dkT at this
    rwa [rho_rho] at this
theorem rn_back {s t : Nat} (h : R2 i d mk sp s t) : Rn (lp (mkT i d mk) (spT i d sp)) dk (rho i d s) (rho i d t) := by
  induction h with
  | refl => exact .refl
  | @f y _ ih =>
    have := ih.f
    rwa [lp_turn] at this
  | @g y _ ih =>
    have := ih.g
    unfold dkT
    rwa [rho_rho]
theorem ncl_turn (D : Dr n mk sp) (hi : i < d) (hd : d ≤ n) : ncl (2 * n + 2) (R1 (mkT i d mk) (spT i d sp)) = ncl (2 * n + 2) (R2 i d mk sp) :=
  Nat.le_antisymm (ncl_le (e1 (D.turn hi hd)) (e2 D hd) (rho i d) (fun s h => rho_lt hd h) fun s t _ _ h => by
    have := rn_back h
    rwa [rho_rho, rho_rho] at this) (ncl_le (e2 D hd) (e1 (D.turn hi hd)) (rho i d) (fun s h => rho_lt hd h) fun s t _ _ h => by
    have := rn_turn h
    rwa [rho_rho, rho_rho] at this)
end
end TR

/-! M5 -/
namespace TR
noncomputable def Vt (n : Nat) (mk sp : Nat → Nat) : Int := (n : Int) + 1 - (ncl (2 * n + 2) (R1 mk sp) : Int) + (cost (sepN n mk sp) (bads n mk sp) : Int)
section
variable {n i d : Nat} {mk sp : Nat → Nat}
theorem rings_le (D : Dr n mk sp) : ncl (2 * n + 2) (R1 mk sp) ≤ n + 1 := by
  have E := e1 D
  have := inj_len (l2 := List.range (n + 1)) (fun s => s / 2) (nd_reps (2 * n + 2) (R1 mk sp)) (fun s hs => List.mem_range.mpr (by
    have := (mem_reps.mp hs).1
    show s / 2 < n + 1
    omega)) fun s hs t ht e => by
    have e' : s / 2 = t / 2 := e
    have ds : R1 mk sp s (dk s) := .g .refl
    by_cases q : s = t
    · exact q
    · have : dk s = t := by
        rcases Nat.mod_two_eq_zero_or_one s with p | p
        · rw [dk_ev p]
          omega
        · rw [dk_od p]
          omega
      exact E.uniq hs ht (this ▸ ds)
  rwa [List.length_range] at this
theorem Vt_nonneg (D : Dr n mk sp) : 0 ≤ Vt n mk sp := by
  have := rings_le D
  unfold Vt
  omega
open Classical in
noncomputable def calms (n i d : Nat) (mk sp : Nat → Nat) : List Nat := (bads n mk sp).filter fun k => decide (Calm n mk sp i d (cl sp k))
open Classical in
theorem mem_calms {k : Nat} : k ∈ calms n i d mk sp ↔ k ∈ bads n mk sp ∧ Calm n mk sp i d (cl sp k) := by
  unfold calms
  rw [List.mem_filter, decide_eq_true_iff]
theorem nd_calms : (calms n i d mk sp).Nodup := nd_bads.filter _
theorem calm_rep (D : Dr n mk sp) (hi : i < d) (hd : d ≤ n) {k : Nat} (h : Rep n mk sp k) (c : Calm n mk sp i d (cl sp k)) : Rep n (mkT i d mk) (spT i d sp) k := by
  refine ⟨h.1, fun j hj q => ?_⟩
  have D' := D.turn hi hd
  have q2 : Cn n (mkT i d mk) (spT i d sp) (cl (spT i d sp) k) (cl (spT i d sp) j) := q.sy D' (cl_lt D' (show j < n + 1 by have := h.1; omega))
  have q3 : Cn n (mkT i d mk) (spT i d sp) (rho i d (cl sp k)) (rho i d (cl sp j)) := q2
  have := (calm_iff D hd c).mpr q3
  exact h.2 j hj (this.sy D (cl_lt D h.1))
theorem calms_sub (D : Dr n mk sp) (hi : i < d) (hd : d ≤ n) {k : Nat} (h : k ∈ calms n i d mk sp) : k ∈ bads n (mkT i d mk) (spT i d sp) := by
  obtain ⟨h1, c⟩ := mem_calms.mp h
  obtain ⟨h2, h3⟩ := mem_bads.mp h1
  exact mem_bads.mpr ⟨calm_rep D hi hd h2 c, calm_bad D hd c h3⟩
open Classical in
theorem calms_cost (D : Dr n mk sp) (hi : i < d) (hd : d ≤ n) : cost (sepN n mk sp) (calms n i d mk sp) ≤ cost (sepN n (mkT i d mk) (spT i d sp)) (bads n (mkT i d mk) (spT i d sp)) := by
  have D' := D.turn hi hd
  have a : cost (sepN n mk sp) (calms n i d mk sp) = cost (sepN n (mkT i d mk) (spT i d sp)) (calms n i d mk sp) :=
    cost_map (fun k => k) nd_calms nd_calms (fun _ _ _ _ h => h) (fun y => ⟨fun h => ⟨y, h, rfl⟩, fun ⟨x, h, e⟩ => e ▸ h⟩) fun c hc a _ b _ _ _ => by
      obtain ⟨c1, c2⟩ := mem_calms.mp hc
      exact calm_sep D hd (cl_lt D (mem_bads.mp c1).1.1) c2
  have nd : ((bads n (mkT i d mk) (spT i d sp)).filter (fun k => decide (k ∉ calms n i d mk sp)) ++ calms n i d mk sp).Nodup := by
    refine List.nodup_append.mpr ⟨nd_bads.filter _, nd_calms, fun x hx y hy e => ?_⟩
    have := (List.mem_filter.mp hx).2
    rw [decide_eq_true_iff] at this
    exact this (e ▸ hy)
  have mem : ∀ x, x ∈ (bads n (mkT i d mk) (spT i d sp)).filter (fun k => decide (k ∉ calms n i d mk sp)) ++ calms n i d mk sp ↔ x ∈ bads n (mkT i d mk) (spT i d sp) := fun x => by
    rw [List.mem_append, List.mem_filter, decide_eq_true_iff]
    constructor
    · rintro (h | h)
      · exact h.1
      · exact calms_sub D hi hd h
    · intro h
      by_cases q : x ∈ calms n i d mk sp
      · exact .inr q
      · exact .inl ⟨h, q⟩
  rw [a, ← cost_same (sep := sepN n (mkT i d mk) (spT i d sp)) nd nd_bads mem]
  exact le_adds (tree D') _ (fun x hx => (mem_bads.mp ((mem x).mp hx)).1) nd
open Classical in
/-- a turn makes the number less by at most one -/
theorem turn_le (D : Dr n mk sp) (hi : i < d) (hd : d ≤ n) : Vt n mk sp ≤ Vt n (mkT i d mk) (spT i d sp) + 1 := by
  have D' := D.turn hi hd
  have T := tree D
  obtain ⟨r1, r2, r3⟩ := rings_turn D hi hd
  rw [← ncl_turn D hi hd] at r1 r2 r3
  have cc := calms_cost D hi hd
  have ha : 2 * i < 2 * n + 2 := by omega
  have hc : 2 * d < 2 * n + 2 := by omega
  unfold Vt
  by_cases K : Cn n mk sp (2 * i) (2 * d)
  · by_cases A : ∃ k, k ∈ bads n mk sp ∧ ¬ Calm n mk sp i d (cl sp k)
    · obtain ⟨k, k1, k2⟩ := A
      obtain ⟨k3, k4⟩ := mem_bads.mp k1
      have hk := cl_lt D k3.1
      have kc := touched_one D hi hd hk k2 K
      have nd : (k :: calms n i d mk sp).Nodup := List.nodup_cons.mpr ⟨fun q => k2 (mem_calms.mp q).2, nd_calms⟩
      have same := cost_same (sep := sepN n mk sp) nd nd_bads fun x => by
        rw [List.mem_cons, mem_calms]
        constructor
        · rintro (h | h)
          · exact h ▸ k1
          · exact h.1
        · intro h
          by_cases q : Calm n mk sp i d (cl sp x)
          · exact .inr ⟨h, q⟩
          · have hx := (mem_bads.mp h).1
            exact .inl (rep_eq D hx k3 ((touched_one D hi hd (cl_lt D hx.1) q K).trans (kc.sy D hk)))
      have ad := add_le (sep := sepN n mk sp) nd
      have := r3 fun s hs h => k4.1 s (kc.trans (r1_con D ha h))
      omega
    · have same := cost_same (sep := sepN n mk sp) (S := calms n i d mk sp) (S' := bads n mk sp) nd_calms nd_bads fun x =>
        ⟨fun h => (mem_calms.mp h).1, fun h => mem_calms.mpr ⟨h, Classical.byContradiction fun q => A ⟨x, h, q⟩⟩⟩
      omega
  · have r4 := r2 fun q => K (r1_con D ha q)
    obtain ⟨K1, p1, p2⟩ := ex_rep D ha
    obtain ⟨K2, q1, q2⟩ := ex_rep D hc
    have h1 := cl_lt D p1.1
    have h2 := cl_lt D q1.1
    have p3 := p2.sy D ha
    have q3 := q2.sy D hc
    have n12 : K1 ≠ K2 := fun e => K (p2.trans (e ▸ q3))
    have t1 := not_calm D hi hd h1 (.inl p3)
    have t2 := not_calm D hi hd h2 (.inr q3)
    let X := (bads n mk sp).filter fun k => decide (¬ Calm n mk sp i d (cl sp k) ∧ k ≠ K1 ∧ k ≠ K2)
    have mX : ∀ x, x ∈ X ↔ x ∈ bads n mk sp ∧ ¬ Calm n mk sp i d (cl sp x) ∧ x ≠ K1 ∧ x ≠ K2 := fun x => by
      show x ∈ (bads n mk sp).filter (fun k => decide (¬ Calm n mk sp i d (cl sp k) ∧ k ≠ K1 ∧ k ≠ K2)) ↔ _
      rw [List.mem_filter, decide_eq_true_iff]
    have nd : (K1 :: K2 :: (X ++ calms n i d mk sp)).Nodup := by
      refine List.nodup_cons.mpr ⟨fun q => ?_, List.nodup_cons.mpr ⟨fun q => ?_, List.nodup_append.mpr ⟨nd_bads.filter _, nd_calms, fun x hx y hy e => ?_⟩⟩⟩
      · rcases List.mem_cons.mp q with q | q
        · exact n12 q
        · rcases List.mem_append.mp q with q | q
          · exact ((mX _).mp q).2.2.1 rfl
          · exact t1 (mem_calms.mp q).2
      · rcases List.mem_append.mp q with q | q
        · exact ((mX _).mp q).2.2.2 rfl
        · exact t2 (mem_calms.mp q).2
      · exact ((mX x).mp hx).2.1 (e ▸ (mem_calms.mp hy).2)
    have path := add_path (sep := sepN n mk sp) nd fun x hx => by
      obtain ⟨x1, x2, x3, x4⟩ := (mX x).mp hx
      have x5 := (mem_bads.mp x1).1
      have h5 := cl_lt D x5.1
      have m1 : ¬ Cn n mk sp (cl sp x) (2 * i) := fun q => x3 (rep_eq D x5 p1 (q.trans p2))
      have m2 : ¬ Cn n mk sp (cl sp x) (2 * d) := fun q => x4 (rep_eq D x5 q1 (q.trans q2))
      exact sepS_of D h5 ha hc .refl p2 q2 m1 m2 (touched_sep D hi hd h5 x2 m1 m2)
    have nd2 : ([K1, K2].filter (fun k => decide (k ∉ bads n mk sp)) ++ bads n mk sp).Nodup := by
      refine List.nodup_append.mpr ⟨List.Pairwise.filter _ ?_, nd_bads, fun x hx y hy e => ?_⟩
      · show [K1, K2].Nodup
        exact List.nodup_cons.mpr ⟨fun q => n12 (List.mem_singleton.mp q), List.nodup_cons.mpr ⟨List.not_mem_nil, List.nodup_nil⟩⟩
      · have := (List.mem_filter.mp hx).2
        rw [decide_eq_true_iff] at this
        exact this (e ▸ hy)
    have mm : ∀ x, x ∈ [K1, K2].filter (fun k => decide (k ∉ bads n mk sp)) ++ bads n mk sp ↔ x ∈ K1 :: K2 :: (X ++ calms n i d mk sp) := fun x => by
      have e1 : x ∈ [K1, K2] ↔ x = K1 ∨ x = K2 := by rw [List.mem_cons, List.mem_singleton]
      rw [List.mem_append, List.mem_filter, decide_eq_true_iff, e1, List.mem_cons, List.mem_cons, List.mem_append, mX, mem_calms]
      constructor
      · rintro (⟨h | h, _⟩ | h)
        · exact .inl h
        · exact .inr (.inl h)
        · by_cases a : x = K1
          · exact .inl a
          · by_cases b : x = K2
            · exact .inr (.inl b)
            · by_cases c : Calm n mk sp i d (cl sp x)
              · exact .inr (.inr (.inr ⟨h, c⟩))
              · exact .inr (.inr (.inl ⟨h, c, a, b⟩))
      · rintro (h | h | h | h)
        · by_cases q : x ∈ bads n mk sp
          · exact .inr q
          · exact .inl ⟨.inl h, q⟩
        · by_cases q : x ∈ bads n mk sp
          · exact .inr q
          · exact .inl ⟨.inr h, q⟩
        · exact .inr h.1
        · exact .inr h.1
    have same := cost_same (sep := sepN n mk sp) nd2 nd mm
    have mono := le_adds (sep := sepN n mk sp) (S := bads n mk sp) T ([K1, K2].filter (fun k => decide (k ∉ bads n mk sp))) (fun x hx => by
      rcases List.mem_append.mp hx with h | h
      · rcases List.mem_cons.mp (List.mem_filter.mp h).1 with e | e
        · exact e ▸ p1
        · exact (List.mem_singleton.mp e) ▸ q1
      · exact (mem_bads.mp h).1) nd2
    omega
theorem le_turn (D : Dr n mk sp) (hi : i < d) (hd : d ≤ n) : Vt n (mkT i d mk) (spT i d sp) ≤ Vt n mk sp + 1 := by
  have := turn_le (D.turn hi hd) hi hd
  have e1 : mkT i d (mkT i d mk) = mk := by
    funext s
    show mk (rho i d (rho i d s)) = mk s
    rw [rho_rho]
  have e2 : spT i d (spT i d sp) = sp := by
    funext s
    exact rho_rho _ _ _
  have h : Vt n (mkT i d mk) (spT i d sp) ≤ Vt n (mkT i d (mkT i d mk)) (spT i d (spT i d sp)) + 1 := this
  rwa [e1, e2] at h
end
end TR

/-! M6 -/
namespace TR
section
variable {n : Nat} {mk sp : Nat → Nat}
structure Block (n : Nat) (mk sp : Nat → Nat) (Z : Nat → Prop) : Prop where
  d : ∀ s, s < 2 * n + 2 → Z s → Z (dk s)
  l : ∀ s, s < 2 * n + 2 → Z s → Z (lp mk sp s)
  p : ∃ e1 e2, ∀ s, s < 2 * n + 2 → Z s → s ≠ e1 → s ≠ e2 → Z (pc n s)
theorem Block.inv (D : Dr n mk sp) {Z : Nat → Prop} (B : Block n mk sp Z) : Block n sp mk (fun m => Z (sp m)) where
  d := fun m h z => by
    have := B.l (sp m) (D.sp_lt m h) z
    rwa [D.lp_sp h] at this
  l := fun m h z => by
    have := B.d (sp m) (D.sp_lt m h) z
    unfold lp
    rwa [D.sp_mk _ (dk_lt (D.sp_lt m h))]
  p := by
    obtain ⟨e1, e2, q⟩ := B.p
    refine ⟨mk e1, mk e2, fun m h z n1 n2 => ?_⟩
    have := q (sp m) (D.sp_lt m h) z (fun e => n1 (by rw [← e, D.mk_sp m h])) (fun e => n2 (by rw [← e, D.mk_sp m h]))
    rwa [D.symm.mk_pc m h]
theorem Block.down {Z : Nat → Prop} (B : Block n mk sp Z) {s : Nat} (h : s + 1 < 2 * n + 2) (z : Z s) (nz : ¬ Z (s + 1)) : s % 2 = 1 ∧ ¬ Z (pc n s) := by
  have o : s % 2 = 1 := Classical.byContradiction fun q => nz (by
    have := B.d s (by omega) z
    rwa [dk_ev (by omega)] at this)
  refine ⟨o, ?_⟩
  rwa [pc_od (by omega) (by omega) (by omega)]
theorem Block.up {Z : Nat → Prop} (B : Block n mk sp Z) {s : Nat} (h : s + 1 < 2 * n + 2) (z : Z (s + 1)) (nz : ¬ Z s) : s % 2 = 1 ∧ ¬ Z (pc n (s + 1)) := by
  have o : s % 2 = 1 := Classical.byContradiction fun q => nz (by
    have := B.d (s + 1) h z
    rwa [dk_od (by omega), Nat.add_sub_cancel] at this)
  refine ⟨o, ?_⟩
  rwa [pc_ev (by omega) (by omega) (by omega), Nat.add_sub_cancel]
theorem Block.alt1 {Z : Nat → Prop} (B : Block n mk sp Z) {x y z w : Nat} (h1 : x < y) (h2 : y < z) (h3 : z < w) (h4 : w < 2 * n + 2) (zx : Z x) (zy : ¬ Z y) (zz : Z z) (zw : ¬ Z w) : False := by
  obtain ⟨e1, e2, q⟩ := B.p
  obtain ⟨s1, a1, a2, a3, a4⟩ := step_down Z h1 zx zy
  obtain ⟨s2, b1, b2, b3, b4⟩ := step_up Z h2 zy zz
  obtain ⟨s3, c1, c2, c3, c4⟩ := step_down Z h3 zz zw
  obtain ⟨o1, k1⟩ := B.down (by omega) a3 a4
  obtain ⟨o2, k2⟩ := B.up (by omega) b4 b3
  obtain ⟨o3, k3⟩ := B.down (by omega) c3 c4
  have r : ∀ s, s < 2 * n + 2 → Z s → ¬ Z (pc n s) → s = e1 ∨ s = e2 := fun s h z nz => Classical.byContradiction fun r => nz (q s h z (fun e => r (.inl e)) (fun e => r (.inr e)))
  have := r s1 (by omega) a3 k1
  have := r (s2 + 1) (by omega) b4 k2
  have := r s3 (by omega) c3 k3
  omega
theorem Block.alt2 {Z : Nat → Prop} (B : Block n mk sp Z) {x y z w : Nat} (h1 : x < y) (h2 : y < z) (h3 : z < w) (h4 : w < 2 * n + 2) (zx : ¬ Z x) (zy : Z y) (zz : ¬ Z z) (zw : Z w) : False := by
  obtain ⟨e1, e2, q⟩ := B.p
  obtain ⟨s1, a1, a2, a3, a4⟩ := step_up Z h1 zx zy
  obtain ⟨s2, b1, b2, b3, b4⟩ := step_down Z h2 zy zz
  obtain ⟨s3, c1, c2, c3, c4⟩ := step_up Z h3 zz zw
  obtain ⟨o1, k1⟩ := B.up (by omega) a4 a3
  obtain ⟨o2, k2⟩ := B.down (by omega) b3 b4
  obtain ⟨o3, k3⟩ := B.up (by omega) c4 c3
  have r : ∀ s, s < 2 * n + 2 → Z s → ¬ Z (pc n s) → s = e1 ∨ s = e2 := fun s h z nz => Classical.byContradiction fun r => nz (q s h z (fun e => r (.inl e)) (fun e => r (.inr e)))
  have := r (s1 + 1) (by omega) a4 k1
  have := r s2 (by omega) b3 k2
  have := r (s3 + 1) (by omega) c4 k3
  omega
/-- two spots on one side of a block and two on the other do not alternate -/
theorem Block.same {Z : Nat → Prop} (B : Block n mk sp Z) {c1 c2 a b : Nat} (hc1 : c1 < 2 * n + 2) (hc2 : c2 < 2 * n + 2) (ha : a < 2 * n + 2) (hb : b < 2 * n + 2) (e : Z c1 ↔ Z c2) (e1 : Z c1 ↔ ¬ Z a) (e2 : Z c1 ↔ ¬ Z b) (h : btw c1 c2 a) : btw c1 c2 b := by
  refine Classical.byContradiction fun nb => ?_
  have d1 : b ≠ c1 := fun q => by
    rw [q] at e2
    by_cases z : Z c1
    · exact e2.mp z z
    · exact z (e2.mpr z)
  have d2 : b ≠ c2 := fun q => by
    rw [q, ← e] at e2
    by_cases z : Z c1
    · exact e2.mp z z
    · exact z (e2.mpr z)
  have key : ∀ p q : Nat, p < q → q < 2 * n + 2 → (Z p ↔ Z q) → (Z p ↔ ¬ Z a) → (Z p ↔ ¬ Z b) → b ≠ p → b ≠ q → p < a ∧ a < q → ¬ (p < b ∧ b < q) → False := by
    intro p q pq hq f f1 f2 g1 g2 h1 h2
    by_cases z : Z p
    · have zq := f.mp z
      have za := f1.mp z
      have zb := f2.mp z
      by_cases o : b < p
      · exact B.alt2 o h1.1 h1.2 hq zb z za zq
      · exact B.alt1 h1.1 h1.2 (show q < b by omega) hb z za zq zb
    · have zq : ¬ Z q := fun r => z (f.mpr r)
      have za : Z a := Classical.byContradiction fun r => z (f1.mpr r)
      have zb : Z b := Classical.byContradiction fun r => z (f2.mpr r)
      by_cases o : b < p
      · exact B.alt1 o h1.1 h1.2 hq zb z za zq
      · exact B.alt2 h1.1 h1.2 (show q < b by omega) hb z za zq zb
  unfold btw at h nb
  rcases h with h | h
  · exact key c1 c2 (by omega) hc2 e e1 e2 d1 d2 h (by omega)
  · exact key c2 c1 (by omega) hc1 e.symm (e.symm.trans e1) (e.symm.trans e2) d2 d1 h (by omega)
/-- a closed stretch is a block -/
theorem block_of (D : Dr n mk sp) {u v : Nat} (huv : u ≤ v) (hv : v < 2 * n + 2) (hc : ∀ s, u ≤ s → s ≤ v → u ≤ lp mk sp s ∧ lp mk sp s ≤ v) {w : Nat} (hw : w < 2 * n + 2) (hw2 : ¬ (u ≤ w ∧ w ≤ v)) : Block n mk sp (fun s => u ≤ s ∧ s ≤ v) := by
  obtain ⟨e1, e2⟩ := even_odd D huv hv hc hw hw2
  refine ⟨fun s h z => ?_, fun s h z => hc s z.1 z.2, u, v, fun s h z n1 n2 => ?_⟩
  · rcases Nat.mod_two_eq_zero_or_one s with p | p
    · rw [dk_ev p]
      omega
    · rw [dk_od p]
      omega
  · by_cases p : s % 2 = 0
    · rw [pc_ev (by omega) (by omega) p]
      omega
    · rw [pc_od (by omega) (by omega) p]
      omega
/-- a block is not left along a part -/
theorem Block.con (D : Dr n mk sp) {Z : Nat → Prop} (B : Block n mk sp Z) {x y : Nat} (hx : x < 2 * n + 2) (h : Cn n mk sp x y) : Z x ↔ Z y := by
  have I := D.ivl
  have cl : ∀ s, s < 2 * n + 2 → (Z s ↔ Z (lp mk sp s)) := fun s hs => ⟨B.l s hs, fun z => by
    have := B.l _ (I.bd s hs) z
    rwa [I.inv s hs] at this⟩
  induction h with
  | refl => exact Iff.rfl
  | @lp y h ih => exact ih.trans (cl y (h.bd I hx))
  | @cr y z h hz hc ih =>
    refine ih.trans (Classical.byContradiction fun q => hc ?_)
    have hy := h.bd I hx
    have f1 := cl y hy
    have f2 := cl z hz
    have g : Z y ↔ ¬ Z z := ⟨fun a b => q ⟨fun _ => b, fun _ => a⟩, fun a => Classical.byContradiction fun b => q ⟨fun c => absurd c b, fun c => absurd c a⟩⟩
    have g2 : Z y ↔ ¬ Z (lp mk sp z) := g.trans (not_congr f2)
    exact ⟨fun r => B.same hy (I.bd y hy) hz (I.bd z hz) f1 g g2 r, fun r => B.same hy (I.bd y hy) (I.bd z hz) hz f1 g2 g r⟩
/-- a part and what is not of it are parted by a block -/
theorem ex_block (D : Dr n mk sp) {x a b : Nat} (hx : x < 2 * n + 2) (ha : a < 2 * n + 2) (na : ¬ Cn n mk sp x a) (nb : ¬ Cn n mk sp x b) (ns : ¬ sepS n mk sp x a b) : ∃ Z, Block n mk sp Z ∧ (Z x ↔ ¬ Z a) ∧ (Z a ↔ Z b) := by
  obtain ⟨u, v, huv, hv, hc, h | h⟩ := gap D hx ha na
  · obtain ⟨h1, h2, h3, h4, h5, h6, h7⟩ := h
    have nx := h3 x .refl
    refine ⟨fun s => u ≤ s ∧ s ≤ v, block_of D huv hv hc hx nx, ⟨fun q => absurd q nx, fun q => absurd ⟨h1, h2⟩ q⟩, ⟨fun _ => ?_, fun _ => ⟨h1, h2⟩⟩⟩
    refine Classical.byContradiction fun q => ns ⟨u - 1, v + 1, h6, h7, fun r => ?_⟩
    have : btw (u - 1) (v + 1) a := .inl ⟨by omega, by omega⟩
    have r2 := r.mp this
    unfold btw at r2
    omega
  · obtain ⟨h1, h2, h3, h4⟩ := h
    have ix := h2 x .refl
    refine ⟨fun s => u ≤ s ∧ s ≤ v, block_of D huv hv hc ha h1, ⟨fun _ => h1, fun _ => ix⟩, ⟨fun q => absurd q h1, fun q => ?_⟩⟩
    refine absurd ⟨u, v, h3, h4, fun r => ?_⟩ ns
    have d1 : b ≠ u := fun e => nb (e ▸ h3)
    have d2 : b ≠ v := fun e => nb (e ▸ h4)
    have : btw u v b := .inl ⟨by omega, by omega⟩
    have r2 := r.mpr this
    unfold btw at r2
    omega
theorem con_inv (D : Dr n mk sp) {x y : Nat} (hx : x < 2 * n + 2) (hy : y < 2 * n + 2) (h : Cn n sp mk (mk x) (mk y)) : Cn n mk sp x y := by
  refine Classical.byContradiction fun q => ?_
  obtain ⟨Z, B, z1, z2⟩ := ex_block D hx hy q q fun ⟨_, _, _, _, r⟩ => r Iff.rfl
  have := (B.inv D).con D.symm (D.mk_lt x hx) h
  have r : Z (sp (mk x)) ↔ Z (sp (mk y)) := this
  rw [D.sp_mk x hx, D.sp_mk y hy] at r
  by_cases z : Z x
  · exact z1.mp z (r.mp z)
  · exact z (z1.mpr fun q => z (r.mpr q))
theorem con_iff (D : Dr n mk sp) {x y : Nat} (hx : x < 2 * n + 2) (hy : y < 2 * n + 2) : Cn n sp mk (mk x) (mk y) ↔ Cn n mk sp x y :=
  ⟨con_inv D hx hy, fun h => con_inv D.symm (D.mk_lt x hx) (D.mk_lt y hy) (by rw [D.sp_mk x hx, D.sp_mk y hy]; exact h)⟩
theorem sep_inv (D : Dr n mk sp) {x a b : Nat} (hx : x < 2 * n + 2) (ha : a < 2 * n + 2) (hb : b < 2 * n + 2) (na : ¬ Cn n mk sp x a) (nb : ¬ Cn n mk sp x b) (h : sepS n sp mk (mk x) (mk a) (mk b)) : sepS n mk sp x a b := by
  refine Classical.byContradiction fun q => ?_
  obtain ⟨Z, B, z1, z2⟩ := ex_block D hx ha na nb q
  have B' := B.inv D
  obtain ⟨c1, c2, h1, h2, h3⟩ := h
  have e1 : Z (sp (mk x)) ↔ Z (sp c1) := B'.con D.symm (D.mk_lt x hx) h1
  have e2 : Z (sp (mk x)) ↔ Z (sp c2) := B'.con D.symm (D.mk_lt x hx) h2
  rw [D.sp_mk x hx] at e1 e2
  have k1 := Cn.lt D.symm (D.mk_lt x hx) h1
  have k2 := Cn.lt D.symm (D.mk_lt x hx) h2
  have f1 : Z (sp c1) ↔ ¬ Z (sp (mk a)) := by rw [D.sp_mk a ha, ← e1]; exact z1
  have f2 : Z (sp c1) ↔ ¬ Z (sp (mk b)) := by rw [D.sp_mk b hb, ← e1, ← z2]; exact z1
  exact h3 ⟨fun r => B'.same k1 k2 (D.mk_lt a ha) (D.mk_lt b hb) (e1.symm.trans e2) f1 f2 r, fun r => B'.same k1 k2 (D.mk_lt b hb) (D.mk_lt a ha) (e1.symm.trans e2) f2 f1 r⟩
theorem sep_iff (D : Dr n mk sp) {x a b : Nat} (hx : x < 2 * n + 2) (ha : a < 2 * n + 2) (hb : b < 2 * n + 2) (na : ¬ Cn n mk sp x a) (nb : ¬ Cn n mk sp x b) : sepS n sp mk (mk x) (mk a) (mk b) ↔ sepS n mk sp x a b :=
  ⟨sep_inv D hx ha hb na nb, fun h => sep_inv D.symm (D.mk_lt x hx) (D.mk_lt a ha) (D.mk_lt b hb) (fun q => na ((con_iff D hx ha).mp q)) (fun q => nb ((con_iff D hx hb).mp q)) (by rw [D.sp_mk x hx, D.sp_mk a ha, D.sp_mk b hb]; exact h)⟩
/-! ### bad parts -/
open Classical in
theorem gap_par (D : Dr n mk sp) {u v : Nat} (huv : u < v) (hv : v < 2 * n + 2) (hu : u % 2 = 0) (ho : v % 2 = 1) (hc : ∀ m, u ≤ m → m ≤ v → u ≤ lp sp mk m ∧ lp sp mk m ≤ v) : (sp u + sp v) % 2 = 1 := by
  have hun : u < 2 * n + 2 := by omega
  let l := (List.range (2 * n + 2)).filter fun s => decide (u ≤ mk s ∧ mk s ≤ v)
  have ml : ∀ s, s ∈ l ↔ s < 2 * n + 2 ∧ u ≤ mk s ∧ mk s ≤ v := fun s => by
    show s ∈ (List.range (2 * n + 2)).filter (fun s => decide (u ≤ mk s ∧ mk s ≤ v)) ↔ _
    rw [List.mem_filter, decide_eq_true_iff, List.mem_range]
  have nl : l.Nodup := List.nodup_range.filter _
  have a := half_len (L := dk) (l := l) nl fun x hx => by
    obtain ⟨h1, h2, h3⟩ := (ml x).mp hx
    have := hc (mk x) h2 h3
    have e : lp sp mk (mk x) = mk (dk x) := by
      unfold lp
      rw [D.sp_mk x h1]
    rw [e] at this
    exact ⟨(ml _).mpr ⟨dk_lt h1, this⟩, dk_ne x, dk_dk x, by have := dk_par x; omega⟩
  have b := half_len (L := pc n) (l := l.filter (fun s => !(s == sp u || s == sp v))) (nl.filter _) fun x hx => by
    obtain ⟨h0, h9⟩ := List.mem_filter.mp hx
    obtain ⟨h1, h2, h3⟩ := (ml x).mp h0
    rw [Bool.not_eq_true', Bool.or_eq_false_iff, beq_eq_false_iff_ne, beq_eq_false_iff_ne] at h9
    have n1 : mk x ≠ u := fun e => h9.1 (by rw [← e, D.sp_mk x h1])
    have n2 : mk x ≠ v := fun e => h9.2 (by rw [← e, D.sp_mk x h1])
    have hm := D.mk_lt x h1
    have key : u < pc n (mk x) ∧ pc n (mk x) < v := by
      by_cases p : mk x % 2 = 0
      · rw [pc_ev (by omega) (by omega) p]
        omega
      · rw [pc_od (by omega) (by omega) p]
        omega
    refine ⟨List.mem_filter.mpr ⟨(ml _).mpr ⟨pc_lt h1, by rw [D.mk_pc x h1]; omega, by rw [D.mk_pc x h1]; omega⟩, ?_⟩, pc_ne h1, pc_pc h1, by have := pc_par h1; omega⟩
    rw [Bool.not_eq_true', Bool.or_eq_false_iff, beq_eq_false_iff_ne, beq_eq_false_iff_ne]
    refine ⟨fun e => ?_, fun e => ?_⟩
    · have : mk (pc n x) = u := by rw [e, D.mk_sp u hun]
      rw [D.mk_pc x h1] at this
      omega
    · have : mk (pc n x) = v := by rw [e, D.mk_sp v hv]
      rw [D.mk_pc x h1] at this
      omega
  have ne : sp u ≠ sp v := fun e => by
    have : mk (sp u) = mk (sp v) := by rw [e]
    rw [D.mk_sp u hun, D.mk_sp v hv] at this
    omega
  have pe : (l.filter (fun s => s == sp u || s == sp v)).Perm [sp u, sp v] := by
    refine (List.perm_ext_iff_of_nodup (nl.filter _) ?_).mpr fun s => ?_
    · exact List.nodup_cons.mpr ⟨fun q => ne (List.mem_singleton.mp q), List.nodup_cons.mpr ⟨List.not_mem_nil, List.nodup_nil⟩⟩
    · have e1 : s ∈ [sp u, sp v] ↔ s = sp u ∨ s = sp v := by rw [List.mem_cons, List.mem_singleton]
      rw [List.mem_filter, e1, Bool.or_eq_true, beq_iff_eq, beq_iff_eq, ml]
      constructor
      · exact fun h => h.2
      · rintro (h | h)
        · rw [h, D.mk_sp u hun]
          exact ⟨⟨D.sp_lt u hun, by omega, by omega⟩, .inl rfl⟩
        · rw [h, D.mk_sp v hv]
          exact ⟨⟨D.sp_lt v hv, by omega, by omega⟩, .inr rfl⟩
  have c := List.countP_eq_countP_filter_add l ev (fun s => s == sp u || s == sp v)
  have c2 := List.countP_eq_countP_filter_add l od (fun s => s == sp u || s == sp v)
  rw [pe.countP_eq] at c c2
  have w : [sp u, sp v].countP ev = [sp u, sp v].countP od := by omega
  simp only [List.countP_cons, List.countP_nil] at w
  unfold ev od at w
  rcases Nat.mod_two_eq_zero_or_one (sp u) with p | p <;> rcases Nat.mod_two_eq_zero_or_one (sp v) with q | q <;> simp [p, q] at w <;> omega
theorem bad_const (D : Dr n mk sp) {x : Nat} (hx : x < 2 * n + 2) (hb : ∀ y, Cn n mk sp x y → (y + lp mk sp y) % 2 = 1) :
    ∀ k m, m ≤ k → k < 2 * n + 2 → Cn n mk sp x (sp m) → Cn n mk sp x (sp k) → (sp m + m) % 2 = (sp k + k) % 2 := by
  intro k
  induction k using Nat.strongRecOn with
  | ind k ih =>
    intro m hm hk cm ck
    by_cases e : m = k
    · rw [e]
    · obtain ⟨t, t1, t2, t3⟩ := last_below (fun t => Cn n mk sp x (sp t)) k ⟨m, by omega, cm⟩
      have mt : m ≤ t := Classical.byContradiction fun q => t3 m (by omega) (by omega) cm
      have htn : t < 2 * n + 2 := by omega
      rw [ih t t1 m mt htn cm t2]
      by_cases e1 : k = t + 1
      · by_cases p : t % 2 = 0
        · have h := hb (sp t) t2
          rw [D.lp_sp htn, dk_ev p] at h
          rw [e1]
          omega
        · have h := pc_par (D.sp_lt t htn)
          rw [← D.symm.mk_pc t htn, pc_od (by omega) (by omega) p] at h
          rw [e1]
          omega
      · have p : t % 2 = 1 := Classical.byContradiction fun q => t3 (t + 1) (by omega) (by omega) (by
          have := t2.lp
          rw [D.lp_sp htn, dk_ev (by omega)] at this
          exact this)
        have p2 : k % 2 = 0 := Classical.byContradiction fun q => t3 (k - 1) (by omega) (by omega) (by
          have := ck.lp
          rw [D.lp_sp hk, dk_od (by omega)] at this
          exact this)
        have tr : ∀ a, a < 2 * n + 2 → (Cn n sp mk t a ↔ Cn n mk sp x (sp a)) := fun a ha => by
          have := con_iff D (D.sp_lt t htn) (D.sp_lt a ha)
          rw [D.mk_sp t htn, D.mk_sp a ha] at this
          exact this.trans ⟨fun q => t2.trans q, fun q => (t2.sy D hx).trans q⟩
        have na : ¬ Cn n sp mk t (t + 1) := fun q => t3 (t + 1) (by omega) (by omega) ((tr _ (by omega)).mp q)
        have ct : Cn n sp mk t k := (tr k hk).mpr ck
        obtain ⟨u, v, huv, hv, hc, h | h⟩ := gap D.symm htn (show t + 1 < 2 * n + 2 by omega) na
        · obtain ⟨h1, h2, h3, h4, h5, h6, h7⟩ := h
          have a1 := h3 t .refl
          have a2 := h3 k ct
          have a3 : Cn n mk sp x (sp (v + 1)) := (tr _ h5).mp h7
          have a4 : v + 1 = k := Classical.byContradiction fun q => t3 (v + 1) (by omega) (by omega) a3
          have a5 : u = t + 1 := by omega
          have a6 : v = k - 1 := by omega
          subst a5 a6
          have g := gap_par D (show t + 1 < k - 1 by omega) hv (by omega) (by omega) hc
          have g1 := pc_par (D.sp_lt t htn)
          rw [← D.symm.mk_pc t htn, pc_od (by omega) (by omega) (by omega)] at g1
          have g2 := pc_par (D.sp_lt k hk)
          rw [← D.symm.mk_pc k hk, pc_ev (by omega) (by omega) (by omega)] at g2
          omega
        · obtain ⟨h1, h2, h3, h4⟩ := h
          have a1 := h2 t .refl
          have a2 := h2 k ct
          omega
theorem bad_inv (D : Dr n mk sp) {x : Nat} (hx : x < 2 * n + 2) (hb : Bad n mk sp x) : Bad n sp mk (mk x) := by
  obtain ⟨h1, y, y1, y2, y3⟩ := hb
  refine ⟨fun m hm => ?_, ?_⟩
  · have hmn := Cn.lt D.symm (D.mk_lt x hx) hm
    have c1 : Cn n mk sp x (sp m) := (con_iff D hx (D.sp_lt m hmn)).mp (by rw [D.mk_sp m hmn]; exact hm)
    have c2 := c1.trans (con_dk D (D.sp_lt m hmn))
    have hd := dk_lt (D.sp_lt m hmn)
    have q : (sp m + m) % 2 = (dk (sp m) + mk (dk (sp m))) % 2 := by
      have cc := c2
      rw [← D.sp_mk _ hd] at cc
      rcases Nat.le_total m (mk (dk (sp m))) with le | le
      · have := bad_const D hx h1 _ _ le (D.mk_lt _ hd) c1 cc
        rwa [D.sp_mk _ hd] at this
      · have := bad_const D hx h1 _ _ le hmn cc c1
        rw [D.sp_mk _ hd] at this
        exact this.symm
    have r := dk_par (sp m)
    show (m + mk (dk (sp m))) % 2 = 1
    omega
  · have ex : ∃ z, Cn n mk sp x z ∧ z ≠ x ∧ z ≠ dk x := by
      refine Classical.byContradiction fun q => ?_
      have all : ∀ z, Cn n mk sp x z → z ≠ x → z = dk x := fun z hz nz => Classical.byContradiction fun r => q ⟨z, hz, nz, r⟩
      have e1 := all _ (Con.lp .refl) (D.ivl.ne x hx)
      exact y3 (by rw [all y y1 y2, ← e1])
    obtain ⟨z, z1, z2, z3⟩ := ex
    have hz := z1.lt D hx
    refine ⟨mk z, (con_iff D hx hz).mpr z1, fun e => z2 (D.inj hz hx e), fun e => z3 (D.inj hz (dk_lt hx) ?_)⟩
    have : lp sp mk (mk x) = mk (dk x) := by
      unfold lp
      rw [D.sp_mk x hx]
    rw [← this]
    exact e
theorem bad_con (D : Dr n mk sp) {x x' : Nat} (hx : x < 2 * n + 2) (h : Cn n mk sp x x') (hb : Bad n mk sp x) : Bad n mk sp x' := by
  obtain ⟨h1, y, y1, y2, y3⟩ := hb
  have s := h.sy D hx
  refine ⟨fun z hz => h1 z (h.trans hz), Classical.byContradiction fun q => ?_⟩
  have all : ∀ z, Cn n mk sp x z → z = x' ∨ z = lp mk sp x' := fun z hz => Classical.byContradiction fun r => q ⟨z, s.trans hz, fun e => r (.inl e), fun e => r (.inr e)⟩
  have a1 := all x .refl
  have a2 := all y y1
  have a3 := all _ (Con.lp .refl)
  have ne := D.ivl.ne x hx
  omega
theorem rn_inv (D : Dr n mk sp) {s t : Nat} (hs : s < 2 * n + 2) (h : R1 mk sp s t) : R1 sp mk (mk s) (mk t) := by
  induction h with
  | refl => exact .refl
  | @f y h ih =>
    have hy : y < 2 * n + 2 := h.bd D.ivl.bd (fun s h => dk_lt h) hs
    rw [D.mk_lp hy]
    exact ih.g
  | @g y h ih =>
    have hy : y < 2 * n + 2 := h.bd D.ivl.bd (fun s h => dk_lt h) hs
    have := ih.f
    unfold lp at this
    rwa [D.sp_mk y hy] at this
theorem ncl_inv (D : Dr n mk sp) : ncl (2 * n + 2) (R1 mk sp) = ncl (2 * n + 2) (R1 sp mk) :=
  Nat.le_antisymm (ncl_le (e1 D) (e1 D.symm) mk D.mk_lt fun s t hs ht h => by
    have := rn_inv D.symm (D.mk_lt s hs) h
    rwa [D.sp_mk s hs, D.sp_mk t ht] at this) (ncl_le (e1 D.symm) (e1 D) sp D.sp_lt fun s t hs ht h => by
    have := rn_inv D (D.sp_lt s hs) h
    rwa [D.mk_sp s hs, D.mk_sp t ht] at this)
theorem cost_inv (D : Dr n mk sp) : cost (sepN n mk sp) (bads n mk sp) = cost (sepN n sp mk) (bads n sp mk) := by
  have S := D.symm
  have ch : ∀ k, ∃ j, k < n + 1 → Rep n sp mk j ∧ Cn n sp mk (mk (cl sp k)) (cl mk j) := fun k => by
    by_cases q : k < n + 1
    · obtain ⟨j, j1, j2⟩ := ex_rep S (D.mk_lt _ (cl_lt D q))
      exact ⟨j, fun _ => ⟨j1, j2⟩⟩
    · exact ⟨0, fun r => absurd r q⟩
  have rp : ∀ k, k ∈ bads n mk sp → Rep n mk sp k := fun k h => (mem_bads.mp h).1
  refine cost_map (fun k => (ch k).choose) nd_bads nd_bads (fun a ha b hb e => ?_) (fun y => ⟨fun hy => ?_, ?_⟩) fun c hc a ha b hb na nb => ?_
  · have a1 := rp a ha
    have b1 := rp b hb
    obtain ⟨p1, p2⟩ := (ch a).choose_spec a1.1
    obtain ⟨q1, q2⟩ := (ch b).choose_spec b1.1
    have e' : (ch a).choose = (ch b).choose := e
    rw [← e'] at q2
    have la := cl_lt D a1.1
    have lb := cl_lt D b1.1
    exact rep_eq D a1 b1 ((con_iff D la lb).mp (p2.trans (q2.sy S (D.mk_lt _ lb))))
  · obtain ⟨y1, y2⟩ := mem_bads.mp hy
    have ly := cl_lt S y1.1
    have lsy := D.sp_lt _ ly
    obtain ⟨k, k1, k2⟩ := ex_rep D lsy
    have lk := cl_lt D k1.1
    have bk : Bad n mk sp (cl sp k) := bad_con D lsy k2 (bad_inv S ly y2)
    refine ⟨k, mem_bads.mpr ⟨k1, bk⟩, ?_⟩
    obtain ⟨p1, p2⟩ := (ch k).choose_spec k1.1
    refine rep_eq S p1 y1 ((p2.sy S (D.mk_lt _ lk)).trans ?_)
    have := (con_iff D lk lsy).mpr (k2.sy D lsy)
    rwa [D.mk_sp _ ly] at this
  · rintro ⟨k, hk, rfl⟩
    obtain ⟨k1, k2⟩ := mem_bads.mp hk
    obtain ⟨p1, p2⟩ := (ch k).choose_spec k1.1
    have lk := cl_lt D k1.1
    exact mem_bads.mpr ⟨p1, bad_con S (D.mk_lt _ lk) p2 (bad_inv D lk k2)⟩
  · have c1 := rp c hc
    have a1 := rp a ha
    have b1 := rp b hb
    have lc := cl_lt D c1.1
    have la := cl_lt D a1.1
    have lb := cl_lt D b1.1
    obtain ⟨p1, p2⟩ := (ch c).choose_spec c1.1
    obtain ⟨q1, q2⟩ := (ch a).choose_spec a1.1
    obtain ⟨r1, r2⟩ := (ch b).choose_spec b1.1
    have nca : ¬ Cn n mk sp (cl sp c) (cl sp a) := fun q => na (rep_eq D c1 a1 q).symm
    have ncb : ¬ Cn n mk sp (cl sp c) (cl sp b) := fun q => nb (rep_eq D c1 b1 q).symm
    have nca' : ¬ Cn n sp mk (mk (cl sp c)) (mk (cl sp a)) := fun q => nca ((con_iff D lc la).mp q)
    have ncb' : ¬ Cn n sp mk (mk (cl sp c)) (mk (cl sp b)) := fun q => ncb ((con_iff D lc lb).mp q)
    have mc := D.mk_lt _ lc
    have ma := D.mk_lt _ la
    have mb := D.mk_lt _ lb
    constructor
    · intro h
      exact sepS_of S mc ma mb p2 q2 r2 nca' ncb' ((sep_iff D lc la lb nca ncb).mpr h)
    · intro h
      refine (sep_iff D lc la lb nca ncb).mp (sepS_of S (cl_lt S p1.1) (cl_lt S q1.1) (cl_lt S r1.1) (p2.sy S mc) (q2.sy S ma) (r2.sy S mb) (fun q => nca' ?_) (fun q => ncb' ?_) h)
      · exact (p2.trans q).trans (q2.sy S ma)
      · exact (p2.trans q).trans (r2.sy S mb)
theorem Vt_inv (D : Dr n mk sp) : Vt n mk sp = Vt n sp mk := by
  unfold Vt
  rw [ncl_inv D, cost_inv D]
/-- the sorted row -/
theorem Vt_id (h : ∀ s, s < 2 * n + 2 → mk s = s) (D : Dr n mk sp) : Vt n mk sp = 0 := by
  have hs : ∀ s, s < 2 * n + 2 → sp s = s := fun s q => by
    have := D.sp_mk s q
    rwa [h s q] at this
  have hl : ∀ s, s < 2 * n + 2 → lp mk sp s = dk s := fun s q => by
    unfold lp
    rw [h s q, hs _ (dk_lt q)]
  have hc : ∀ x y, x < 2 * n + 2 → Cn n mk sp x y → y = x ∨ y = dk x := by
    intro x y hx c
    induction c with
    | refl => exact .inl rfl
    | @lp z c ih =>
      rcases ih with e | e
      · rw [e, hl x hx]
        exact .inr rfl
      · rw [e, hl _ (dk_lt hx), dk_dk]
        exact .inl rfl
    | @cr z w c hw hc ih =>
      exfalso
      apply hc
      have hz := Cn.lt D hx c
      rw [hl z hz]
      unfold btw
      rcases Nat.mod_two_eq_zero_or_one z with e | e
      · rw [dk_ev e]
        omega
      · rw [dk_od e]
        omega
  have b0 : bads n mk sp = [] := by
    refine List.eq_nil_iff_forall_not_mem.mpr fun k hk => ?_
    obtain ⟨k1, k2, y, y1, y2, y3⟩ := mem_bads.mp hk
    rcases hc _ _ (cl_lt D k1.1) y1 with e | e
    · exact y2 e
    · exact y3 (by rw [hl _ (cl_lt D k1.1)]; exact e)
  have c0 : cost (sepN n mk sp) (bads n mk sp) = 0 := by
    rw [b0]
    have e : TR.hs (sepN n mk sp) [] = [] := List.eq_nil_iff_forall_not_mem.mpr fun k hk => List.not_mem_nil (mem_hs.mp hk).1
    rw [cost_nofort, e]
    · rfl
    · intro f
      have := f.1
      rw [e] at this
      cases this
  have r0 : ncl (2 * n + 2) (R1 mk sp) = n + 1 := by
    refine Nat.le_antisymm (rings_le D) ?_
    have := inj_len (l1 := List.range (n + 1)) (l2 := reps (2 * n + 2) (R1 mk sp)) (fun k => 2 * k) List.nodup_range (fun k hk => by
      have hk' := List.mem_range.mp hk
      refine mem_reps.mpr ⟨by show 2 * k < _; omega, fun t ht q => ?_⟩
      have ht' : t < 2 * k := ht
      rcases hc t (2 * k) (by omega) (r1_con D (by omega) q) with e | e
      · omega
      · unfold dk at e
        split at e <;> omega) fun a _ b _ e => by
      have e' : 2 * a = 2 * b := e
      omega
    rw [List.length_range] at this
    exact this
  unfold Vt
  rw [c0, r0]
  omega
end
end TR

/-! M7 -/
namespace TR
/-! ### ascending lists -/
theorem asc_uniq {l1 l2 : List Nat} (h1 : l1.Pairwise (· < ·)) (h2 : l2.Pairwise (· < ·)) (h : ∀ x, x ∈ l1 ↔ x ∈ l2) : l1 = l2 := by
  have nd : ∀ l : List Nat, l.Pairwise (· < ·) → l.Nodup := fun l q => q.imp fun h => Nat.ne_of_lt h
  have p := (List.perm_ext_iff_of_nodup (nd _ h1) (nd _ h2)).mpr h
  exact List.Perm.eq_of_pairwise (le := (· < ·)) (fun a b _ _ x y => absurd x (Nat.lt_asymm y)) h1 h2 p
/-! ### the program's lines and parts -/
section
variable (n : Nat) (mk sp : Nat → Nat)
def loF (k : Nat) : Nat := min (sp (2 * k)) (sp (2 * k + 1))
def hiF (k : Nat) : Nat := max (sp (2 * k)) (sp (2 * k + 1))
abbrev CC (k l : Nat) : Prop := Cn n mk sp (cl sp k) (cl sp l)
open Classical in
noncomputable def partL (k : Nat) : List Nat := (List.range (n + 1)).filter fun l => decide (CC n mk sp k l)
open Classical in
noncomputable def repL : List Nat := (List.range (n + 1)).filter fun k => decide (Rep n mk sp k)
end
/-- one of the two spots c, d lies between a and b -/
def xB (a b c d : Int) : Bool := decide ((if a < c ∧ c < b then (1 : Nat) else 0) + (if a < d ∧ d < b then 1 else 0) = 1)
section
variable {n : Nat} {mk sp : Nat → Nat}
open Classical in
theorem mem_partL {k l : Nat} : l ∈ partL n mk sp k ↔ l < n + 1 ∧ CC n mk sp k l := by
  unfold partL
  rw [List.mem_filter, decide_eq_true_iff, List.mem_range]
open Classical in
theorem mem_repL {k : Nat} : k ∈ repL n mk sp ↔ Rep n mk sp k := by
  unfold repL
  rw [List.mem_filter, decide_eq_true_iff, List.mem_range]
  exact ⟨fun h => h.2, fun h => ⟨h.1, h⟩⟩
theorem asc_partL (k : Nat) : (partL n mk sp k).Pairwise (· < ·) := List.Pairwise.filter _ List.pairwise_lt_range
theorem nd_partL (k : Nat) : (partL n mk sp k).Nodup := List.nodup_range.filter _
theorem partL_len (k : Nat) : (partL n mk sp k).length ≤ n + 1 := by
  have := List.length_filter_le (p := fun l => @decide (CC n mk sp k l) (Classical.propDecidable _)) (l := List.range (n + 1))
  rwa [List.length_range] at this
theorem partL_con (D : Dr n mk sp) {k l : Nat} (hk : k < n + 1) (h : CC n mk sp k l) : partL n mk sp k = partL n mk sp l := by
  refine asc_uniq (asc_partL k) (asc_partL l) fun x => ?_
  rw [mem_partL, mem_partL]
  have h' := h.sy D (cl_lt D hk)
  exact ⟨fun q => ⟨q.1, h'.trans q.2⟩, fun q => ⟨q.1, h.trans q.2⟩⟩
theorem partL_inj (D : Dr n mk sp) {k l : Nat} (hk : Rep n mk sp k) (hl : Rep n mk sp l) (h : partL n mk sp k = partL n mk sp l) : k = l := by
  have : k ∈ partL n mk sp l := by
    rw [← h, mem_partL]
    exact ⟨hk.1, .refl⟩
  exact (rep_eq D hl hk (mem_partL.mp this).2).symm
/-- the least line of a part stands first -/
theorem partL_head (D : Dr n mk sp) {k : Nat} (hk : Rep n mk sp k) : (partL n mk sp k)[0]? = some k := by
  have hm : k ∈ partL n mk sp k := mem_partL.mpr ⟨hk.1, .refl⟩
  have as := asc_partL (n := n) (mk := mk) (sp := sp) k
  cases e : partL n mk sp k with
  | nil => rw [e] at hm; exact absurd hm List.not_mem_nil
  | cons x r =>
    rw [e] at hm as
    show some x = some k
    rcases List.mem_cons.mp hm with q | q
    · rw [q]
    · exfalso
      have lt := (List.pairwise_cons.mp as).1 k q
      have hx : x ∈ partL n mk sp k := by rw [e]; exact List.mem_cons_self
      exact hk.2 x lt ((mem_partL.mp hx).2.sy D (cl_lt D hk.1))
theorem lo_lt (D : Dr n mk sp) {k : Nat} (h : k < n + 1) : loF sp k < hiF sp k ∧ hiF sp k < 2 * n + 2 := by
  have a := D.sp_lt (2 * k) (by omega)
  have b := D.sp_lt (2 * k + 1) (by omega)
  have c : sp (2 * k) ≠ sp (2 * k + 1) := fun e => by
    have : mk (sp (2 * k)) = mk (sp (2 * k + 1)) := by rw [e]
    rw [D.mk_sp _ (by omega), D.mk_sp _ (by omega)] at this
    omega
  unfold loF hiF
  omega
theorem lp_cl (D : Dr n mk sp) {k : Nat} (h : k < n + 1) : lp mk sp (cl sp k) = sp (2 * k + 1) := by
  unfold cl
  rw [D.lp_sp (by omega), dk_ev (by omega)]
theorem lohi (D : Dr n mk sp) {k : Nat} (h : k < n + 1) : (loF sp k = cl sp k ∧ hiF sp k = lp mk sp (cl sp k)) ∨ (loF sp k = lp mk sp (cl sp k) ∧ hiF sp k = cl sp k) := by
  rw [lp_cl D h]
  unfold loF hiF cl
  omega
theorem xB_iff (D : Dr n mk sp) {k l : Nat} (hk : k < n + 1) (hl : l < n + 1) : xB (loF sp k : Int) (hiF sp k : Int) (loF sp l : Int) (hiF sp l : Int) = true ↔ Cr (lp mk sp) (cl sp k) (cl sp l) := by
  have a := lo_lt D hk
  have b := lo_lt D hl
  have c := lohi D hk
  have d := lohi D hl
  unfold xB Cr btw
  rw [decide_eq_true_iff]
  generalize lp mk sp (cl sp k) = k' at *
  generalize lp mk sp (cl sp l) = l' at *
  generalize loF sp k = p at *
  generalize hiF sp k = q at *
  generalize loF sp l = u at *
  generalize hiF sp l = v at *
  have e1 : ((p : Int) < (u : Int) ∧ (u : Int) < (q : Int)) ↔ (p < u ∧ u < q) := by omega
  have e2 : ((p : Int) < (v : Int) ∧ (v : Int) < (q : Int)) ↔ (p < v ∧ v < q) := by omega
  by_cases f1 : p < u ∧ u < q <;> by_cases f2 : p < v ∧ v < q
  · rw [if_pos (e1.mpr f1), if_pos (e2.mpr f2)]
    omega
  · rw [if_pos (e1.mpr f1), if_neg (fun z => f2 (e2.mp z))]
    omega
  · rw [if_neg (fun z => f1 (e1.mp z)), if_pos (e2.mpr f2)]
    omega
  · rw [if_neg (fun z => f1 (e1.mp z)), if_neg (fun z => f2 (e2.mp z))]
    omega
theorem ori_iff (D : Dr n mk sp) {k : Nat} (hk : k < n + 1) : (loF sp k + hiF sp k) % 2 = (cl sp k + lp mk sp (cl sp k)) % 2 := by
  rcases lohi D hk with h | h
  · rw [h.1, h.2]
  · rw [h.1, h.2, Nat.add_comm]
/-- a spot of a part is an end of one of its lines -/
theorem con_line (D : Dr n mk sp) {k s : Nat} (hk : k < n + 1) (hs : s < 2 * n + 2) : Cn n mk sp (cl sp k) s ↔ mk s / 2 ∈ partL n mk sp k := by
  have hm := D.mk_lt s hs
  rw [mem_partL]
  have c := cn_line D hs
  exact ⟨fun q => ⟨by omega, q.trans c⟩, fun q => q.2.trans (c.sy D hs)⟩
/-- what a walk along crossings from a line reaches, once it is closed, is its part -/
theorem bfs_closed (D : Dr n mk sp) {k : Nat} (hk : k < n + 1) (F : Nat → Prop) (h0 : F k) (h1 : ∀ j, F j → j < n + 1 ∧ CC n mk sp k j) (hc : ∀ j l, F j → l < n + 1 → Cr (lp mk sp) (cl sp j) (cl sp l) → F l) (l : Nat) : F l ↔ l < n + 1 ∧ CC n mk sp k l := by
  refine ⟨h1 l, fun ⟨hl, h⟩ => ?_⟩
  have I := D.ivl
  have key : ∀ y, Cn n mk sp (cl sp k) y → F (mk y / 2) := by
    intro y hy
    induction hy with
    | refl =>
      unfold cl
      rw [D.mk_sp _ (by omega), Nat.mul_div_cancel_left _ (by omega)]
      exact h0
    | @lp y h ih =>
      rw [D.mk_lp (h.bd I (cl_lt D hk)), dk_half]
      exact ih
    | @cr y z h hz hcr ih =>
      have hy := h.bd I (cl_lt D hk)
      have my := D.mk_lt y hy
      have mz := D.mk_lt z hz
      refine hc _ _ ih (by omega) ?_
      -- a line's two ends serve alike
      have ends : ∀ s, s < 2 * n + 2 → s = cl sp (mk s / 2) ∨ s = lp mk sp (cl sp (mk s / 2)) := fun s hs => by
        have ms := D.mk_lt s hs
        rw [lp_cl D (by omega)]
        unfold cl
        rcases Nat.mod_two_eq_zero_or_one (mk s) with e | e
        · left
          rw [show 2 * (mk s / 2) = mk s by omega, D.sp_mk s hs]
        · right
          rw [show 2 * (mk s / 2) + 1 = mk s by omega, D.sp_mk s hs]
      have c1 : Cr (lp mk sp) y (cl sp (mk z / 2)) := by
        rcases ends z hz with e | e
        · rwa [← e]
        · intro q
          apply hcr
          rw [e, I.inv _ (cl_lt D (by omega))]
          exact q.symm
      have c2 := Cr.symm I hy (cl_lt D (by omega)) c1
      have c3 : Cr (lp mk sp) (cl sp (mk z / 2)) (cl sp (mk y / 2)) := by
        rcases ends y hy with e | e
        · rwa [← e]
        · intro q
          apply c2
          rw [e, I.inv _ (cl_lt D (by omega))]
          exact q.symm
      exact Cr.symm I (cl_lt D (by omega)) (cl_lt D (by omega)) c3
  have := key _ h
  unfold cl at this
  rwa [D.mk_sp _ (by omega), Nat.mul_div_cancel_left _ (by omega)] at this
/-- the program's test of a bad part -/
theorem bad_iff (D : Dr n mk sp) {k : Nat} (hk : Rep n mk sp k) : Bad n mk sp (cl sp k) ↔ (∀ l, l ∈ partL n mk sp k → (loF sp l + hiF sp l) % 2 ≠ 0) ∧ (1 < (partL n mk sp k).length ∨ ¬ (loF sp k % 2 = 0 ∧ hiF sp k = loF sp k + 1)) := by
  have hx := cl_lt D hk.1
  constructor
  · rintro ⟨h1, y, y1, y2, y3⟩
    refine ⟨fun l hl => ?_, .inl ?_⟩
    · obtain ⟨l1, l2⟩ := mem_partL.mp hl
      rw [ori_iff D l1, h1 _ l2]
      omega
    · have hy := y1.lt D hx
      have m1 : mk y / 2 ∈ partL n mk sp k := (con_line D hk.1 hy).mp y1
      have m0 : k ∈ partL n mk sp k := mem_partL.mpr ⟨hk.1, .refl⟩
      have ne : k ≠ mk y / 2 := fun e => by
        rcases Nat.mod_two_eq_zero_or_one (mk y) with p | p
        · apply y2
          unfold cl
          rw [show 2 * k = mk y by omega, D.sp_mk y hy]
        · apply y3
          rw [lp_cl D hk.1, show 2 * k + 1 = mk y by omega, D.sp_mk y hy]
      have := sub_len [k, mk y / 2] (partL n mk sp k) (List.nodup_cons.mpr ⟨fun q => ne (List.mem_singleton.mp q), List.nodup_cons.mpr ⟨List.not_mem_nil, List.nodup_nil⟩⟩) fun x hx => by
        rcases List.mem_cons.mp hx with q | q
        · exact q ▸ m0
        · exact (List.mem_singleton.mp q) ▸ m1
      exact this
  · rintro ⟨h1, h2⟩
    have un : ∀ y, Cn n mk sp (cl sp k) y → (y + lp mk sp y) % 2 = 1 := fun y hy => by
      have hy2 := hy.lt D hx
      have hm := D.mk_lt y hy2
      have := h1 _ ((con_line D hk.1 hy2).mp hy)
      rw [ori_iff D (by omega), lp_cl D (by omega)] at this
      unfold cl at this
      have e := D.lp_sp hm
      rw [D.sp_mk y hy2] at e
      rw [e]
      rcases Nat.mod_two_eq_zero_or_one (mk y) with p | p
      · rw [dk_ev p]
        rw [show 2 * (mk y / 2) = mk y by omega, D.sp_mk y hy2] at this
        omega
      · rw [dk_od p]
        rw [show 2 * (mk y / 2) = mk y - 1 by omega, show mk y - 1 + 1 = mk y by omega, D.sp_mk y hy2] at this
        omega
    refine ⟨un, ?_⟩
    have long : 1 < (partL n mk sp k).length := by
      rcases h2 with h | h
      · exact h
      · refine Classical.byContradiction fun q => h ?_
        have m0 : k ∈ partL n mk sp k := mem_partL.mpr ⟨hk.1, .refl⟩
        have one : ∀ l, l ∈ partL n mk sp k → l = k := fun l hl => Classical.byContradiction fun ne => q (by
          have := sub_len [k, l] (partL n mk sp k) (List.nodup_cons.mpr ⟨fun q => ne (List.mem_singleton.mp q).symm, List.nodup_cons.mpr ⟨List.not_mem_nil, List.nodup_nil⟩⟩) fun x hx => by
            rcases List.mem_cons.mp hx with q | q
            · exact q ▸ m0
            · exact (List.mem_singleton.mp q) ▸ hl
          exact this)
        have hd := dk_lt hx
        have e := one _ ((con_line D hk.1 hd).mp (con_dk D hx))
        have e2 : dk (cl sp k) = lp mk sp (cl sp k) := by
          rw [lp_cl D hk.1]
          rcases Nat.mod_two_eq_zero_or_one (mk (dk (cl sp k))) with p | p
          · exfalso
            have : mk (dk (cl sp k)) = 2 * k := by omega
            have e3 : dk (cl sp k) = cl sp k := by
              rw [← D.sp_mk _ hd, this]
              rfl
            exact dk_ne _ e3
          · have : mk (dk (cl sp k)) = 2 * k + 1 := by omega
            rw [← this, D.sp_mk _ hd]
        rcases lohi D hk.1 with g | g
        · rw [g.1, g.2, ← e2]
          have lt := (lo_lt D hk.1).1
          rw [g.1, g.2, ← e2] at lt
          rcases Nat.mod_two_eq_zero_or_one (cl sp k) with p | p
          · exact ⟨p, dk_ev p⟩
          · rw [dk_od p] at lt
            omega
        · rw [g.1, g.2, ← e2]
          have lt := (lo_lt D hk.1).1
          rw [g.1, g.2, ← e2] at lt
          rcases Nat.mod_two_eq_zero_or_one (cl sp k) with p | p
          · rw [dk_ev p] at lt
            omega
          · rw [dk_od p]
            omega
    have ex : ∃ l, l ∈ partL n mk sp k ∧ l ≠ k := Classical.byContradiction fun q => by
      have := sub_len (partL n mk sp k) [k] (nd_partL k) fun x hx => List.mem_singleton.mpr (Classical.byContradiction fun r => q ⟨x, hx, r⟩)
      rw [List.length_singleton] at this
      omega
    obtain ⟨l, l1, l2⟩ := ex
    obtain ⟨l3, l4⟩ := mem_partL.mp l1
    refine ⟨cl sp l, l4, fun e => l2 ?_, fun e => l2 ?_⟩
    · have : mk (cl sp l) = mk (cl sp k) := by rw [e]
      unfold cl at this
      rw [D.mk_sp _ (by omega), D.mk_sp _ (by have := hk.1; omega)] at this
      omega
    · have : mk (cl sp l) = mk (lp mk sp (cl sp k)) := by rw [e]
      rw [lp_cl D hk.1] at this
      unfold cl at this
      rw [D.mk_sp _ (by omega), D.mk_sp _ (by have := hk.1; omega)] at this
      omega
/-! ### how often a part begins in the round -/
open Classical in
theorem runs {r : Nat} (col spt : Nat → Nat) (S : List Nat) (D : Dr n mk sp) (hS : ∀ k, k ∈ S → Rep n mk sp k) (asc : ∀ i j, i < j → j < r → spt i < spt j)
    (h1 : ∀ i, i < r → col i ∈ S ∧ spt i < 2 * n + 2 ∧ Cn n mk sp (cl sp (col i)) (spt i)) (h2 : ∀ k, k ∈ S → ∀ s, Cn n mk sp (cl sp k) s → ∃ i, i < r ∧ col i = k ∧ spt i = s) {k : Nat} (hk : k ∈ S) :
    ((List.range r).filter fun i => decide (col i ≠ col (if i = 0 then r - 1 else i - 1) ∧ col i = k)).length ≤ 1 ↔ isH (sepN n mk sp) S k := by
  have mem : ∀ i, i ∈ (List.range r).filter (fun i => decide (col i ≠ col (if i = 0 then r - 1 else i - 1) ∧ col i = k)) ↔ i < r ∧ col i ≠ col (if i = 0 then r - 1 else i - 1) ∧ col i = k := fun i => by
    rw [List.mem_filter, decide_eq_true_iff, List.mem_range]
  have nd : ((List.range r).filter fun i => decide (col i ≠ col (if i = 0 then r - 1 else i - 1) ∧ col i = k)).Nodup := List.nodup_range.filter _
  have two : (∃ i j, i < j ∧ i ∈ (List.range r).filter (fun i => decide (col i ≠ col (if i = 0 then r - 1 else i - 1) ∧ col i = k)) ∧ j ∈ (List.range r).filter (fun i => decide (col i ≠ col (if i = 0 then r - 1 else i - 1) ∧ col i = k))) ↔
      ¬ ((List.range r).filter fun i => decide (col i ≠ col (if i = 0 then r - 1 else i - 1) ∧ col i = k)).length ≤ 1 := by
    generalize (List.range r).filter (fun i => decide (col i ≠ col (if i = 0 then r - 1 else i - 1) ∧ col i = k)) = l at nd
    constructor
    · rintro ⟨i, j, ij, hi, hj⟩ q
      have := sub_len [i, j] l (List.nodup_cons.mpr ⟨fun q => Nat.ne_of_lt ij (List.mem_singleton.mp q), List.nodup_cons.mpr ⟨List.not_mem_nil, List.nodup_nil⟩⟩) fun x hx => by
        rcases List.mem_cons.mp hx with q | q
        · exact q ▸ hi
        · exact (List.mem_singleton.mp q) ▸ hj
      have e : [i, j].length = 2 := rfl
      omega
    · intro q
      match l, nd, q with
      | [], _, q => exact absurd (Nat.zero_le _) q
      | [x], _, q => exact absurd (Nat.le_refl _) q
      | x :: y :: l, nd, q =>
        have ne : x ≠ y := fun e => (List.nodup_cons.mp nd).1 (e ▸ List.mem_cons_self)
        rcases Nat.lt_or_gt_of_ne ne with h | h
        · exact ⟨x, y, h, List.mem_cons_self, List.mem_cons_of_mem _ List.mem_cons_self⟩
        · exact ⟨y, x, h, List.mem_cons_of_mem _ List.mem_cons_self, List.mem_cons_self⟩
  have rk := hS k hk
  have hx := cl_lt D rk.1
  -- two beginnings, two that are parted
  have fwd : (∃ i j, i < j ∧ i ∈ (List.range r).filter (fun i => decide (col i ≠ col (if i = 0 then r - 1 else i - 1) ∧ col i = k)) ∧ j ∈ (List.range r).filter (fun i => decide (col i ≠ col (if i = 0 then r - 1 else i - 1) ∧ col i = k))) →
      ¬ isH (sepN n mk sp) S k := by
    rintro ⟨i, j, ij, hi, hj⟩ hH
    obtain ⟨i1, i2, i3⟩ := (mem i).mp hi
    obtain ⟨j1, j2, j3⟩ := (mem j).mp hj
    rw [if_neg (by omega)] at j2
    rw [j3] at j2
    rw [i3] at i2
    have ne1 : j - 1 ≠ i := fun e => j2 (by rw [e, i3])
    obtain ⟨a1, a2, a3⟩ := h1 (j - 1) (by omega)
    have ci := (h1 i i1).2.2
    have cj := (h1 j j1).2.2
    rw [i3] at ci
    rw [j3] at cj
    have la := asc i (j - 1) (by omega) (by omega)
    have lb := asc (j - 1) j (by omega) j1
    have lij := asc i j ij j1
    have outer : ∃ b, b < r ∧ col b ≠ k ∧ ¬ btw (spt i) (spt j) (spt b) := by
      by_cases e : i = 0
      · rw [if_pos e] at i2
        have n1 : r - 1 ≠ j := fun q => i2 (by rw [q, j3])
        have lc := asc j (r - 1) (by omega) (by omega)
        refine ⟨r - 1, by omega, fun q => i2 q.symm, ?_⟩
        unfold btw
        omega
      · rw [if_neg e] at i2
        have lc := asc (i - 1) i (by omega) i1
        refine ⟨i - 1, by omega, fun q => i2 q.symm, ?_⟩
        unfold btw
        omega
    obtain ⟨b, b1, b2, b3⟩ := outer
    obtain ⟨b4, b5, b6⟩ := h1 b b1
    have ra := hS _ a1
    have rb := hS _ b4
    refine hH _ a1 _ b4 (fun q => j2 q.symm) b2 ?_
    have s : sepS n mk sp (cl sp k) (spt (j - 1)) (spt b) := ⟨spt i, spt j, ci, cj, fun q => b3 (q.mp (by unfold btw; omega))⟩
    have na : ¬ Cn n mk sp (cl sp k) (spt (j - 1)) := fun q => j2 (rep_eq D rk ra (q.trans (a3.sy D (cl_lt D ra.1))))
    have nb : ¬ Cn n mk sp (cl sp k) (spt b) := fun q => b2 (rep_eq D rk rb (q.trans (b6.sy D (cl_lt D rb.1)))).symm
    exact sepS_of D hx a2 b5 .refl (a3.sy D (cl_lt D ra.1)) (b6.sy D (cl_lt D rb.1)) na nb s
  -- two that are parted, two beginnings
  have bwd : ∀ i1 i2 ia ib, i1 < ia → ia < i2 → i2 < r → ib < r → (ib < i1 ∨ i2 < ib) → col i1 = k → col i2 = k → col ia ≠ k → col ib ≠ k →
      ∃ i j, i < j ∧ i ∈ (List.range r).filter (fun i => decide (col i ≠ col (if i = 0 then r - 1 else i - 1) ∧ col i = k)) ∧ j ∈ (List.range r).filter (fun i => decide (col i ≠ col (if i = 0 then r - 1 else i - 1) ∧ col i = k)) := by
    intro i1 i2 ia ib o1 o2 o3 o4 o5 k1 k2 k3 k4
    have start : ∀ p q, p < q → q < r → col p ≠ k → col q = k → ∃ t, p < t ∧ t ≤ q ∧ t ∈ (List.range r).filter (fun i => decide (col i ≠ col (if i = 0 then r - 1 else i - 1) ∧ col i = k)) := by
      intro p q pq qr np hq
      obtain ⟨s, s1, s2, s3, s4⟩ := step_up (fun t => col t = k) pq np hq
      refine ⟨s + 1, by omega, by omega, (mem _).mpr ⟨by omega, ?_, s4⟩⟩
      rw [if_neg (by omega), Nat.add_sub_cancel, s4]
      exact fun e => s3 e.symm
    obtain ⟨t, t1, t2, t3⟩ := start ia i2 o2 o3 k3 k2
    rcases o5 with o5 | o5
    · obtain ⟨u, u1, u2, u3⟩ := start ib i1 o5 (by omega) k4 k1
      exact ⟨u, t, by omega, u3, t3⟩
    · by_cases z : col 0 = k
      · by_cases w : col (r - 1) = k
        · have : ib ≠ r - 1 := fun e => k4 (e ▸ w)
          obtain ⟨u, u1, u2, u3⟩ := start ib (r - 1) (by omega) (by omega) k4 w
          exact ⟨t, u, by omega, t3, u3⟩
        · refine ⟨0, t, by omega, (mem 0).mpr ⟨by omega, ?_, z⟩, t3⟩
          rw [if_pos rfl, z]
          exact fun e => w e.symm
      · have : i1 ≠ 0 := fun e => z (e ▸ k1)
        obtain ⟨u, u1, u2, u3⟩ := start 0 i1 (by omega) (by omega) z k1
        exact ⟨u, t, by omega, u3, t3⟩
  constructor
  · intro le a ha b hb na nb s
    refine two.mp ?_ le
    have idx : ∀ i j, i < r → j < r → spt i < spt j → i < j := fun i j hi hj q => Classical.byContradiction fun z => by
      rcases Nat.lt_or_ge j i with y | y
      · have := asc j i y hi
        omega
      · have : i = j := by omega
        rw [this] at q
        omega
    obtain ⟨c1, c2, d1, d2, d3⟩ := s
    obtain ⟨i1, p1, p2, p3⟩ := h2 k hk c1 d1
    obtain ⟨i2, q1, q2, q3⟩ := h2 k hk c2 d2
    obtain ⟨ia, a1, a2, a3⟩ := h2 a ha _ .refl
    obtain ⟨ib, b1, b2, b3⟩ := h2 b hb _ .refl
    have main : ∀ (c1 c2 : Nat) (i1 i2 : Nat) (_ : i1 < r) (_ : i2 < r) (_ : col i1 = k) (_ : col i2 = k) (_ : spt i1 = c1) (_ : spt i2 = c2) (a b ia ib : Nat) (_ : a ≠ k) (_ : b ≠ k) (_ : ia < r) (_ : ib < r) (_ : col ia = a) (_ : col ib = b), btw c1 c2 (spt ia) → ¬ btw c1 c2 (spt ib) →
        ∃ i j, i < j ∧ i ∈ (List.range r).filter (fun i => decide (col i ≠ col (if i = 0 then r - 1 else i - 1) ∧ col i = k)) ∧ j ∈ (List.range r).filter (fun i => decide (col i ≠ col (if i = 0 then r - 1 else i - 1) ∧ col i = k)) := by
      intro c1 c2 i1 i2 p1 q1 p2 q2 p3 q3 a b ia ib na nb a1 b1 a2 b2 ba bb
      have nb1 : spt ib ≠ c1 := fun e => by
        have : ib = i1 := by
          rcases Nat.lt_trichotomy ib i1 with y | y | y
          · have := asc _ _ y p1; omega
          · exact y
          · have := asc _ _ y b1; omega
        exact nb (by rw [← b2, this, p2])
      have nb2 : spt ib ≠ c2 := fun e => by
        have : ib = i2 := by
          rcases Nat.lt_trichotomy ib i2 with y | y | y
          · have := asc _ _ y q1; omega
          · exact y
          · have := asc _ _ y b1; omega
        exact nb (by rw [← b2, this, q2])
      unfold btw at ba bb
      rcases ba with ba | ba
      · refine bwd i1 i2 ia ib (idx _ _ p1 a1 (by omega)) (idx _ _ a1 q1 (by omega)) q1 b1 ?_ p2 q2 (by rw [a2]; exact na) (by rw [b2]; exact nb)
        by_cases z : spt ib < c1
        · exact .inl (idx _ _ b1 p1 (by omega))
        · exact .inr (idx _ _ q1 b1 (by omega))
      · refine bwd i2 i1 ia ib (idx _ _ q1 a1 (by omega)) (idx _ _ a1 p1 (by omega)) p1 b1 ?_ q2 p2 (by rw [a2]; exact na) (by rw [b2]; exact nb)
        by_cases z : spt ib < c2
        · exact .inl (idx _ _ b1 q1 (by omega))
        · exact .inr (idx _ _ p1 b1 (by omega))
    by_cases z : btw c1 c2 (cl sp a)
    · refine main c1 c2 i1 i2 p1 q1 p2 q2 p3 q3 a b ia ib na nb a1 b1 a2 b2 (by rw [a3]; exact z) ?_
      rw [b3]
      exact fun w => d3 ⟨fun _ => w, fun _ => z⟩
    · have w : btw c1 c2 (cl sp b) := Classical.byContradiction fun w => d3 ⟨fun q => absurd q z, fun q => absurd q w⟩
      refine main c1 c2 i1 i2 p1 q1 p2 q2 p3 q3 b a ib ia nb na b1 a1 b2 a2 (by rw [b3]; exact w) ?_
      rw [a3]
      exact z
  · intro hH
    exact Classical.byContradiction fun q => fwd (two.mpr q) hH
end
/-! ### the walk along a ring -/
section
variable {n : Nat} {mk sp : Nat → Nat}
/-- what an earlier walk has seen: the rings of the starts below i -/
def Seen (mk sp : Nat → Nat) (i s : Nat) : Prop := ∃ t, t < i ∧ R1 mk sp t s
structure Ring (n : Nat) (mk sp : Nat → Nat) (i : Nat) (S : Nat → Prop) (spot : Nat) : Prop where
  sub : ∀ s, s < 2 * n + 2 → S s → Seen mk sp i s ∨ R1 mk sp i s
  old : ∀ s, s < 2 * n + 2 → Seen mk sp i s → S s
  d : ∀ s, s < 2 * n + 2 → S s → S (dk s)
  on : R1 mk sp i spot
  st : ((∀ s, s < 2 * n + 2 → S s → Seen mk sp i s) ∧ spot = i) ∨
    ((S i ∧ ¬ Seen mk sp i i) ∧ (S (lp mk sp spot) ∧ ¬ Seen mk sp i (lp mk sp spot)) ∧ lp mk sp spot ≠ i ∧
      ∀ s, s < 2 * n + 2 → S s → ¬ Seen mk sp i s → s ≠ i → s ≠ lp mk sp spot → (S (lp mk sp s) ∧ ¬ Seen mk sp i (lp mk sp s)) ∧ lp mk sp s ≠ i ∧ lp mk sp s ≠ lp mk sp spot)
theorem Seen.f (D : Dr n mk sp) {i s : Nat} (hs : s < 2 * n + 2) : Seen mk sp i s ↔ Seen mk sp i (lp mk sp s) :=
  ⟨fun ⟨t, h, r⟩ => ⟨t, h, r.f⟩, fun ⟨t, h, r⟩ => ⟨t, h, by have := r.f; rwa [D.ivl.inv s hs] at this⟩⟩
theorem Seen.g {i s : Nat} : Seen mk sp i s ↔ Seen mk sp i (dk s) :=
  ⟨fun ⟨t, h, r⟩ => ⟨t, h, r.g⟩, fun ⟨t, h, r⟩ => ⟨t, h, by have := r.g; rwa [dk_dk] at this⟩⟩
theorem Ring.start {i : Nat} {S : Nat → Prop} (h : ∀ s, s < 2 * n + 2 → (S s ↔ Seen mk sp i s)) : Ring n mk sp i S i where
  sub := fun s hs q => .inl ((h s hs).mp q)
  old := fun s hs q => (h s hs).mpr q
  d := fun s hs q => (h _ (dk_lt hs)).mpr (Seen.g.mp ((h s hs).mp q))
  on := .refl
  st := .inl ⟨fun s hs q => (h s hs).mp q, rfl⟩
theorem Ring.bd (D : Dr n mk sp) {i spot : Nat} {S : Nat → Prop} (hi : i < 2 * n + 2) (R : Ring n mk sp i S spot) : spot < 2 * n + 2 := R.on.bd D.ivl.bd (fun _ h => dk_lt h) hi
theorem Ring.step (D : Dr n mk sp) {i spot : Nat} {S S' : Nat → Prop} (hi : i < 2 * n + 2) (R : Ring n mk sp i S spot) (hn : ¬ S spot) (hS : ∀ s, S' s ↔ S s ∨ s = spot ∨ s = dk spot) : Ring n mk sp i S' (lp mk sp (dk spot)) := by
  have hb := R.bd D hi
  have hd := dk_lt hb
  have I := D.ivl
  have nd : ¬ S (dk spot) := fun q => hn (by have := R.d _ hd q; rwa [dk_dk] at this)
  have ns : ¬ Seen mk sp i spot := fun q => hn (R.old _ hb q)
  have nsd : ¬ Seen mk sp i (dk spot) := fun q => ns (Seen.g.mpr q)
  have le : lp mk sp (lp mk sp (dk spot)) = dk spot := I.inv _ hd
  refine ⟨fun s hs q => ?_, fun s hs q => (hS s).mpr (.inl (R.old s hs q)), fun s hs q => ?_, (R.on.g).f, .inr ?_⟩
  · rcases (hS s).mp q with q | q | q
    · exact R.sub s hs q
    · exact .inr (q ▸ R.on)
    · exact .inr (q ▸ R.on.g)
  · rcases (hS s).mp q with q | q | q
    · exact (hS _).mpr (.inl (R.d s hs q))
    · exact (hS _).mpr (.inr (.inr (by rw [q])))
    · exact (hS _).mpr (.inr (.inl (by rw [q, dk_dk])))
  · rw [le]
    rcases R.st with ⟨st, e⟩ | ⟨⟨s1, s2⟩, ⟨s3, s4⟩, s5, s6⟩
    · refine ⟨⟨(hS i).mpr (.inr (.inl e.symm)), e ▸ ns⟩, ⟨(hS _).mpr (.inr (.inr rfl)), nsd⟩, fun q => dk_ne spot (q.trans e.symm), fun s hs q q2 q3 q4 => ?_⟩
      rcases (hS s).mp q with q | q | q
      · exact absurd (st s hs q) q2
      · exact absurd (q.trans e) q3
      · exact absurd q q4
    · refine ⟨⟨(hS i).mpr (.inl s1), s2⟩, ⟨(hS _).mpr (.inr (.inr rfl)), nsd⟩, fun q => nd (q ▸ s1), fun s hs q q2 q3 q4 => ?_⟩
      rcases (hS s).mp q with q | q | q
      · by_cases e : s = lp mk sp spot
        · have e2 : lp mk sp s = spot := by rw [e, I.inv _ hb]
          rw [e2]
          exact ⟨⟨(hS _).mpr (.inr (.inl rfl)), ns⟩, fun z => hn (z ▸ s1), fun z => dk_ne spot z.symm⟩
        · obtain ⟨⟨g1, g2⟩, g3, g4⟩ := s6 s hs q q2 q3 e
          exact ⟨⟨(hS _).mpr (.inl g1), g2⟩, g3, fun z => nd (z ▸ g1)⟩
      · rw [q]
        exact ⟨⟨(hS _).mpr (.inl s3), s4⟩, s5, fun z => nd (z ▸ s3)⟩
      · exact absurd q q4
theorem Ring.finish (D : Dr n mk sp) {i spot : Nat} {S : Nat → Prop} (hi : i < 2 * n + 2) (R : Ring n mk sp i S spot) (hS : S spot) : ∀ s, s < 2 * n + 2 → (S s ↔ Seen mk sp (i + 1) s) := by
  have hb := R.bd D hi
  have I := D.ivl
  have up : ∀ s, Seen mk sp (i + 1) s ↔ Seen mk sp i s ∨ R1 mk sp i s := fun s =>
    ⟨fun ⟨t, h, r⟩ => by
      by_cases e : t = i
      · exact .inr (e ▸ r)
      · exact .inl ⟨t, by omega, r⟩, fun q => q.elim (fun ⟨t, h, r⟩ => ⟨t, by omega, r⟩) fun r => ⟨i, by omega, r⟩⟩
  have cl : ∀ s, R1 mk sp i s → S s := by
    rcases R.st with ⟨st, e⟩ | ⟨⟨s1, s2⟩, ⟨s3, s4⟩, s5, s6⟩
    · intro s hs
      have hsi : Seen mk sp i i := st i hi (e ▸ hS)
      obtain ⟨t, h, r⟩ := hsi
      have b : s < 2 * n + 2 := hs.bd I.bd (fun _ h => dk_lt h) hi
      exact R.old s b ⟨t, h, r.trans hs⟩
    · have nS : ¬ Seen mk sp i spot := fun q => s4 ((Seen.f D hb).mp q)
      have e : spot = i := Classical.byContradiction fun ne => by
        have := s6 spot hb hS nS ne (fun z => I.ne spot hb z.symm)
        exact this.2.2 rfl
      have all : ∀ s, R1 mk sp i s → S s ∧ ¬ Seen mk sp i s := by
        intro s hs
        induction hs with
        | refl => exact ⟨s1, s2⟩
        | @f y h ih =>
          have hy : y < 2 * n + 2 := h.bd I.bd (fun _ h => dk_lt h) hi
          by_cases a : y = i
          · rw [show lp mk sp y = lp mk sp spot by rw [a, e]]
            exact ⟨s3, s4⟩
          · by_cases b : y = lp mk sp spot
            · rw [b, I.inv _ hb, e]
              exact ⟨s1, s2⟩
            · exact (s6 y hy ih.1 ih.2 a b).1
        | @g y h ih =>
          have hy : y < 2 * n + 2 := h.bd I.bd (fun _ h => dk_lt h) hi
          exact ⟨R.d y hy ih.1, fun q => ih.2 (Seen.g.mpr q)⟩
      exact fun s hs => (all s hs).1
  intro s hs
  rw [up]
  exact ⟨R.sub s hs, fun q => q.elim (R.old s hs) (cl s)⟩
open Classical in
theorem seen_rep (i : Nat) (hi : i < 2 * n + 2) : ¬ Seen mk sp i i ↔ i ∈ reps (2 * n + 2) (R1 mk sp) := by
  rw [mem_reps]
  exact ⟨fun h => ⟨hi, fun t ht r => h ⟨t, ht, r⟩⟩, fun h ⟨t, ht, r⟩ => h.2 t ht r⟩
end
end TR

/-! M8 -/
namespace TR
/-! ### signed rows -/
theorem nodup_at {α : Type} {l : List α} : l.Nodup ↔ ∀ i j, i < j → j < l.length → l[i]? ≠ l[j]? := by
  have e : l.Nodup ↔ l.Pairwise (· ≠ ·) := Iff.rfl
  rw [e, List.pairwise_iff_getElem]
  constructor
  · intro h i j ij hj q
    rw [List.getElem?_eq_getElem (by omega), List.getElem?_eq_getElem hj] at q
    exact h i j (by omega) hj ij (Option.some.inj q)
  · intro h i j hi hj ij q
    exact h i j ij hj (by rw [List.getElem?_eq_getElem hi, List.getElem?_eq_getElem hj, q])
structure SR (n : Nat) (r : List Int) : Prop where
  len : r.length = n
  bd : ∀ k, k < n → 1 ≤ (r.getD k 0).natAbs ∧ (r.getD k 0).natAbs ≤ n
  inj : ∀ k l, k < n → l < n → (r.getD k 0).natAbs = (r.getD l 0).natAbs → k = l
/-- the mark at a spot -/
def mkF (r : List Int) (s : Nat) : Nat :=
  if s = 0 then 0 else if r.length ≤ (s - 1) / 2 then 2 * r.length + 1
  else if (s % 2 = 1 ↔ 0 < r.getD ((s - 1) / 2) 0) then 2 * (r.getD ((s - 1) / 2) 0).natAbs - 1 else 2 * (r.getD ((s - 1) / 2) 0).natAbs
section
variable {n : Nat} {r : List Int}
theorem getD_at {α : Type} {l : List α} {k : Nat} {d x : α} (h : l[k]? = some x) : l.getD k d = x := by
  rw [List.getD_eq_getElem?_getD, h]
  rfl
theorem SR.abs_perm (h : SR n r) : (r.map Int.natAbs).Perm (List.range' 1 n) := by
  have at_ : ∀ k, k < n → r[k]? = some (r.getD k 0) := fun k hk => by
    rw [List.getD_eq_getElem?_getD, List.getElem?_eq_getElem (by rw [h.len]; exact hk)]
    rfl
  have nd : (r.map Int.natAbs).Nodup := by
    rw [nodup_at]
    intro i j ij hj
    rw [List.length_map, h.len] at hj
    rw [List.getElem?_map, List.getElem?_map, at_ i (by omega), at_ j hj]
    intro e
    have e' : (r.getD i 0).natAbs = (r.getD j 0).natAbs := Option.some.inj e
    have := h.inj i j (by omega) hj e'
    omega
  have sub : ∀ x, x ∈ r.map Int.natAbs → x ∈ List.range' 1 n := fun x hx => by
    obtain ⟨k, hk⟩ := List.mem_iff_getElem?.mp hx
    have hl : k < n := by
      have := (List.getElem?_eq_some_iff.mp hk).1
      rwa [List.length_map, h.len] at this
    rw [List.getElem?_map, at_ k hl] at hk
    have e : (r.getD k 0).natAbs = x := Option.some.inj hk
    have b := h.bd k hl
    rw [List.mem_range'_1]
    omega
  have back := sub_eq nd sub (by rw [List.length_range', List.length_map, h.len]; exact Nat.le_refl _)
  exact (List.perm_ext_iff_of_nodup nd (List.nodup_range' (step := 1))).mpr fun x => ⟨sub x, back x⟩
theorem SR.of_perm (h : (r.map Int.natAbs).Perm (List.range' 1 n)) : SR n r := by
  have len : r.length = n := by
    have := h.length_eq
    rwa [List.length_map, List.length_range'] at this
  have nd : (r.map Int.natAbs).Nodup := h.symm.nodup (List.nodup_range' (step := 1))
  have at_ : ∀ k, k < n → (r.map Int.natAbs)[k]? = some (r.getD k 0).natAbs := fun k hk => by
    rw [List.getElem?_map, List.getD_eq_getElem?_getD, List.getElem?_eq_getElem (by rw [len]; exact hk)]
    rfl
  refine ⟨len, fun k hk => ?_, fun k l hk hl e => ?_⟩
  · have := h.mem_iff.mp (List.mem_of_getElem? (at_ k hk))
    rw [List.mem_range'_1] at this
    omega
  · rw [nodup_at] at nd
    rcases Nat.lt_trichotomy k l with q | q | q
    · exact absurd (by rw [at_ k hk, at_ l hl, e]) (nd k l q (by rw [List.length_map, len]; exact hl))
    · exact q
    · exact absurd (by rw [at_ k hk, at_ l hl, e]) (nd l k q (by rw [List.length_map, len]; exact hk))
theorem mkF_zero : mkF r 0 = 0 := if_pos rfl
theorem mkF_top (h : r.length = n) : mkF r (2 * n + 1) = 2 * n + 1 := by
  unfold mkF
  rw [if_neg (by omega), if_pos (by omega), h]
theorem mkF_od (h : r.length = n) {k : Nat} (hk : k < n) : mkF r (2 * k + 1) = if 0 < r.getD k 0 then 2 * (r.getD k 0).natAbs - 1 else 2 * (r.getD k 0).natAbs := by
  have e : (2 * k + 1 - 1) / 2 = k := by omega
  unfold mkF
  rw [if_neg (by omega), e, if_neg (by omega)]
  by_cases p : 0 < r.getD k 0
  · rw [if_pos (by omega), if_pos p]
  · rw [if_neg (by omega), if_neg p]
theorem mkF_ev (h : r.length = n) {k : Nat} (hk : k < n) : mkF r (2 * k + 2) = if 0 < r.getD k 0 then 2 * (r.getD k 0).natAbs else 2 * (r.getD k 0).natAbs - 1 := by
  have e : (2 * k + 2 - 1) / 2 = k := by omega
  unfold mkF
  rw [if_neg (by omega), e, if_neg (by omega)]
  by_cases p : 0 < r.getD k 0
  · rw [if_neg (by omega), if_pos p]
  · rw [if_pos (by omega), if_neg p]
theorem spot_cases {s : Nat} (h : s < 2 * n + 2) : s = 0 ∨ s = 2 * n + 1 ∨ ∃ k, k < n ∧ (s = 2 * k + 1 ∨ s = 2 * k + 2) := by
  by_cases a : s = 0
  · exact .inl a
  · by_cases b : s = 2 * n + 1
    · exact .inr (.inl b)
    · exact .inr (.inr ⟨(s - 1) / 2, by omega, by omega⟩)
/-- what the mark tells: the piece, by its half -/
theorem mkF_half (h : SR n r) {k : Nat} (hk : k < n) {s : Nat} (hs : s = 2 * k + 1 ∨ s = 2 * k + 2) : (mkF r s + 1) / 2 = (r.getD k 0).natAbs ∧ 1 ≤ mkF r s ∧ mkF r s ≤ 2 * n := by
  have b := h.bd k hk
  rcases hs with e | e
  · rw [e, mkF_od h.len hk]
    split <;> omega
  · rw [e, mkF_ev h.len hk]
    split <;> omega
theorem mkF_lt (h : SR n r) {s : Nat} (hs : s < 2 * n + 2) : mkF r s < 2 * n + 2 := by
  rcases spot_cases hs with e | e | ⟨k, hk, e⟩
  · rw [e, mkF_zero]
    omega
  · rw [e, mkF_top h.len]
    omega
  · have := (mkF_half h hk e).2.2
    omega
theorem mkF_inj (h : SR n r) {s t : Nat} (hs : s < 2 * n + 2) (ht : t < 2 * n + 2) (e : mkF r s = mkF r t) : s = t := by
  have z := mkF_zero (r := r)
  have w := mkF_top h.len
  rcases spot_cases hs with a | a | ⟨k, hk, a⟩ <;> rcases spot_cases ht with b | b | ⟨l, hl, b⟩
  · omega
  · rw [a, b] at e
    omega
  · have := mkF_half h hl b
    rw [a] at e
    omega
  · rw [a, b] at e
    omega
  · omega
  · have := mkF_half h hl b
    rw [a] at e
    omega
  · have := mkF_half h hk a
    rw [b] at e
    omega
  · have := mkF_half h hk a
    rw [b] at e
    omega
  · have h1 := mkF_half h hk a
    have h2 := mkF_half h hl b
    have kl : k = l := h.inj k l hk hl (by rw [← h1.1, ← h2.1, e])
    subst kl
    have bd := h.bd k hk
    have o := mkF_od h.len hk
    have v := mkF_ev h.len hk
    rcases a with a | a <;> rcases b with b | b
    · omega
    · exfalso
      rw [a, b, o, v] at e
      split at e <;> omega
    · exfalso
      rw [a, b, o, v] at e
      split at e <;> omega
    · omega
theorem mkF_onto (h : SR n r) {m : Nat} (hm : m < 2 * n + 2) : ∃ s, s < 2 * n + 2 ∧ mkF r s = m := by
  have nd : ((List.range (2 * n + 2)).map (mkF r)).Nodup := by
    rw [nodup_at]
    intro i j ij hj
    rw [List.length_map, List.length_range] at hj
    rw [List.getElem?_map, List.getElem?_map, List.getElem?_range (by omega), List.getElem?_range hj]
    intro e
    have := mkF_inj h (by omega) hj (Option.some.inj e)
    omega
  have back := sub_eq nd (l2 := List.range (2 * n + 2)) (fun x hx => by
    obtain ⟨s, s1, rfl⟩ := List.mem_map.mp hx
    exact List.mem_range.mpr (mkF_lt h (List.mem_range.mp s1))) (by rw [List.length_map]; exact Nat.le_refl _)
  obtain ⟨s, s1, s2⟩ := List.mem_map.mp (back m (List.mem_range.mpr hm))
  exact ⟨s, List.mem_range.mp s1, s2⟩
theorem mkF_pc (h : SR n r) {s : Nat} (hs : s < 2 * n + 2) : mkF r (pc n s) = pc n (mkF r s) := by
  rcases spot_cases hs with a | a | ⟨k, hk, a⟩
  · have e : pc n 0 = 2 * n + 1 := if_pos rfl
    rw [a, mkF_zero, e, mkF_top h.len]
  · have e : pc n (2 * n + 1) = 0 := by unfold pc; rw [if_neg (by omega), if_pos rfl]
    rw [a, mkF_top h.len, e, mkF_zero]
  · have bd := h.bd k hk
    rcases a with a | a
    · have e : pc n s = 2 * k + 2 := by rw [pc_od (by omega) (by omega) (by omega)]; omega
      rw [e, a, mkF_od h.len hk, mkF_ev h.len hk]
      split
      · rw [pc_od (by omega) (by omega) (by omega)]
        omega
      · rw [pc_ev (by omega) (by omega) (by omega)]
    · have e : pc n s = 2 * k + 1 := by rw [pc_ev (by omega) (by omega) (by omega)]; omega
      rw [e, a, mkF_od h.len hk, mkF_ev h.len hk]
      split
      · rw [pc_ev (by omega) (by omega) (by omega)]
      · rw [pc_od (by omega) (by omega) (by omega)]
        omega
/-- a row with its marks and spots -/
structure Rw (n : Nat) (r : List Int) (mk sp : Nat → Nat) : Prop where
  sr : SR n r
  dr : Dr n mk sp
  eq : ∀ s, s < 2 * n + 2 → mk s = mkF r s
theorem ex_rw (h : SR n r) : ∃ mk sp, Rw n r mk sp := by
  have ch : ∀ m, ∃ s, m < 2 * n + 2 → s < 2 * n + 2 ∧ mkF r s = m := fun m => by
    by_cases q : m < 2 * n + 2
    · obtain ⟨s, s1, s2⟩ := mkF_onto h q
      exact ⟨s, fun _ => ⟨s1, s2⟩⟩
    · exact ⟨0, fun p => absurd p q⟩
  refine ⟨mkF r, fun m => (ch m).choose, h, ⟨fun s hs => mkF_lt h hs, fun m hm => ((ch m).choose_spec hm).1, fun s hs => ?_, fun m hm => ((ch m).choose_spec hm).2, fun s hs => mkF_pc h hs⟩, fun _ _ => rfl⟩
  have := (ch (mkF r s)).choose_spec (mkF_lt h hs)
  exact mkF_inj h this.1 hs this.2
/-! ### a turned row -/
def isTurned (i j : Nat) (r r' : List Int) : Prop := r'.length = r.length ∧ ∀ k, k < r.length → r'.getD k 0 = if i ≤ k ∧ k ≤ j then - r.getD (i + j - k) 0 else r.getD k 0
theorem turned_sr {i j : Nat} {r' : List Int} (h : SR n r) (hij : i ≤ j) (hj : j < n) (t : isTurned i j r r') : SR n r' := by
  obtain ⟨t1, t2⟩ := t
  rw [h.len] at t1 t2
  have ab : ∀ k, k < n → (r'.getD k 0).natAbs = (r.getD (if i ≤ k ∧ k ≤ j then i + j - k else k) 0).natAbs := fun k hk => by
    rw [t2 k hk]
    split
    · rw [Int.natAbs_neg]
    · rfl
  have bd : ∀ k, k < n → (if i ≤ k ∧ k ≤ j then i + j - k else k) < n := fun k hk => by split <;> omega
  refine ⟨t1, fun k hk => ?_, fun k l hk hl e => ?_⟩
  · rw [ab k hk]
    exact h.bd _ (bd k hk)
  · rw [ab k hk, ab l hl] at e
    have := h.inj _ _ (bd k hk) (bd l hl) e
    split at this <;> split at this <;> omega
theorem turned_mk {i j : Nat} {r' : List Int} (h : SR n r) (hij : i ≤ j) (hj : j < n) (t : isTurned i j r r') {s : Nat} (hs : s < 2 * n + 2) : mkF r' s = mkF r (rho i (j + 1) s) := by
  have h' := turned_sr h hij hj t
  obtain ⟨t1, t2⟩ := t
  rw [h.len] at t1 t2
  rcases spot_cases hs with a | a | ⟨k, hk, a⟩
  · rw [a, rho_out (by omega), mkF_zero, mkF_zero]
  · rw [a, rho_out (by omega), mkF_top h.len, mkF_top t1]
  · have bd := h.bd k hk
    by_cases w : i ≤ k ∧ k ≤ j
    · have hk2 : i + j - k < n := by omega
      have bd2 := h.bd _ hk2
      rw [rho_in (by omega)]
      have e := t2 k hk
      rw [if_pos w] at e
      rcases a with a | a
      · rw [a, mkF_od t1 hk, show 2 * i + 1 + 2 * (j + 1) - (2 * k + 1) = 2 * (i + j - k) + 2 by omega, mkF_ev h.len hk2, e, Int.natAbs_neg]
        by_cases p : 0 < r.getD (i + j - k) 0
        · rw [if_neg (by omega), if_pos p]
        · rw [if_pos (by omega), if_neg p]
      · rw [a, mkF_ev t1 hk, show 2 * i + 1 + 2 * (j + 1) - (2 * k + 2) = 2 * (i + j - k) + 1 by omega, mkF_od h.len hk2, e, Int.natAbs_neg]
        by_cases p : 0 < r.getD (i + j - k) 0
        · rw [if_neg (by omega), if_pos p]
        · rw [if_pos (by omega), if_neg p]
    · rw [rho_out (by omega)]
      have e := t2 k hk
      rw [if_neg w] at e
      rcases a with a | a
      · rw [a, mkF_od t1 hk, mkF_od h.len hk, e]
      · rw [a, mkF_ev t1 hk, mkF_ev h.len hk, e]
theorem turned_rw {i j : Nat} {r' : List Int} {mk sp : Nat → Nat} (h : Rw n r mk sp) (hij : i ≤ j) (hj : j < n) (t : isTurned i j r r') : Rw n r' (mkT i (j + 1) mk) (spT i (j + 1) sp) where
  sr := turned_sr h.sr hij hj t
  dr := h.dr.turn (by omega) (by omega)
  eq := fun s hs => by
    rw [turned_mk h.sr hij hj t hs]
    exact h.eq _ (rho_lt (by omega) hs)
/-! ### the relative row -/
/-- R has, at each place, the signed place of the piece in the second row -/
def isRel (f s R : List Int) : Prop := R.length = f.length ∧ ∀ p, p < f.length → ∃ q, q < s.length ∧ ((f.getD p 0 = s.getD q 0 ∧ R.getD p 0 = (q : Int) + 1) ∨ (f.getD p 0 = - s.getD q 0 ∧ R.getD p 0 = -((q : Int) + 1)))
theorem rel_rw {f s R : List Int} {mf sf ms ss : Nat → Nat} (hf : Rw n f mf sf) (hs : Rw n s ms ss) (h : isRel f s R) : Rw n R (fun t => ss (mf t)) (fun t => sf (ms t)) := by
  obtain ⟨h1, h2⟩ := h
  rw [hf.sr.len] at h1 h2
  rw [hs.sr.len] at h2
  have sr : SR n R := by
    refine ⟨h1, fun k hk => ?_, fun k l hk hl e => ?_⟩
    · obtain ⟨q, q1, q2 | q2⟩ := h2 k hk <;> omega
    · obtain ⟨q, q1, q2⟩ := h2 k hk
      obtain ⟨u, u1, u2⟩ := h2 l hl
      have : q = u := by omega
      subst this
      refine hf.sr.inj k l hk hl ?_
      omega
  have D : Dr n (fun t => ss (mf t)) (fun t => sf (ms t)) := ⟨fun t ht => hs.dr.sp_lt _ (hf.dr.mk_lt t ht), fun t ht => hf.dr.sp_lt _ (hs.dr.mk_lt t ht),
    fun t ht => by rw [hs.dr.mk_sp _ (hf.dr.mk_lt t ht), hf.dr.sp_mk t ht], fun t ht => by rw [hf.dr.mk_sp _ (hs.dr.mk_lt t ht), hs.dr.sp_mk t ht],
    fun t ht => by rw [hf.dr.mk_pc t ht, hs.dr.symm.mk_pc _ (hf.dr.mk_lt t ht)]⟩
  refine ⟨sr, D, fun t ht => ?_⟩
  have ht' := mkF_lt sr ht
  refine hs.dr.inj (hs.dr.sp_lt _ (hf.dr.mk_lt t ht)) ht' ?_
  rw [hs.dr.mk_sp _ (hf.dr.mk_lt t ht), hf.eq t ht, hs.eq _ ht']
  rcases spot_cases ht with a | a | ⟨k, hk, a⟩
  · rw [a, mkF_zero, mkF_zero, mkF_zero]
  · rw [a, mkF_top hf.sr.len, mkF_top h1, mkF_top hs.sr.len]
  · obtain ⟨q, q1, q2⟩ := h2 k hk
    have bf := hf.sr.bd k hk
    have bs := hs.sr.bd q q1
    rcases q2 with ⟨e1, e2⟩ | ⟨e1, e2⟩
    · rcases a with a | a
      · rw [a, mkF_od hf.sr.len hk, mkF_od h1 hk, e2, if_pos (show (0 : Int) < (q : Int) + 1 by omega), show 2 * ((q : Int) + 1).natAbs - 1 = 2 * q + 1 by omega, mkF_od hs.sr.len q1, e1]
      · rw [a, mkF_ev hf.sr.len hk, mkF_ev h1 hk, e2, if_pos (show (0 : Int) < (q : Int) + 1 by omega), show 2 * ((q : Int) + 1).natAbs = 2 * q + 2 by omega, mkF_ev hs.sr.len q1, e1]
    · rcases a with a | a
      · rw [a, mkF_od hf.sr.len hk, mkF_od h1 hk, e2, if_neg (show ¬ (0 : Int) < -((q : Int) + 1) by omega), show 2 * (-((q : Int) + 1)).natAbs = 2 * q + 2 by omega, mkF_ev hs.sr.len q1, e1, Int.natAbs_neg]
        by_cases p : 0 < s.getD q 0
        · rw [if_neg (by omega), if_pos p]
        · rw [if_pos (by omega), if_neg p]
      · rw [a, mkF_ev hf.sr.len hk, mkF_ev h1 hk, e2, if_neg (show ¬ (0 : Int) < -((q : Int) + 1) by omega), show 2 * (-((q : Int) + 1)).natAbs - 1 = 2 * q + 1 by omega, mkF_od hs.sr.len q1, e1, Int.natAbs_neg]
        by_cases p : 0 < s.getD q 0
        · rw [if_neg (by omega), if_pos p]
        · rw [if_pos (by omega), if_neg p]
end
/-! ### the number that the program tells of two rows -/
noncomputable def VV (n : Nat) (mf sf ms ss : Nat → Nat) : Int := Vt n (fun t => ss (mf t)) (fun t => sf (ms t))
section
variable {n : Nat} {mf sf ms ss : Nat → Nat}
theorem Dr.comp (F : Dr n mf sf) (S : Dr n ms ss) : Dr n (fun t => ss (mf t)) (fun t => sf (ms t)) := ⟨fun t ht => S.sp_lt _ (F.mk_lt t ht), fun t ht => F.sp_lt _ (S.mk_lt t ht),
    fun t ht => by rw [S.mk_sp _ (F.mk_lt t ht), F.sp_mk t ht], fun t ht => by rw [F.mk_sp _ (S.mk_lt t ht), S.sp_mk t ht],
    fun t ht => by rw [F.mk_pc t ht, S.symm.mk_pc _ (F.mk_lt t ht)]⟩
theorem VV_sym (F : Dr n mf sf) (S : Dr n ms ss) : VV n ms ss mf sf = VV n mf sf ms ss := (Vt_inv (F.comp S)).symm
theorem VV_nonneg (F : Dr n mf sf) (S : Dr n ms ss) : 0 ≤ VV n mf sf ms ss := Vt_nonneg (F.comp S)
theorem VV_self (F : Dr n mf sf) : VV n mf sf mf sf = 0 := Vt_id (fun s hs => F.sp_mk s hs) (F.comp F)
theorem VV_turn (F : Dr n mf sf) (S : Dr n ms ss) {i d : Nat} (hi : i < d) (hd : d ≤ n) : VV n mf sf (mkT i d ms) (spT i d ss) ≤ VV n mf sf ms ss + 1 := by
  have a := le_turn (S.comp F) hi hd
  have e1 := VV_sym F S
  have e2 := VV_sym F (S.turn hi hd)
  have e3 : VV n (mkT i d ms) (spT i d ss) mf sf = Vt n (mkT i d (fun t => sf (ms t))) (spT i d (fun t => ss (mf t))) := rfl
  have e4 : VV n ms ss mf sf = Vt n (fun t => sf (ms t)) (fun t => ss (mf t)) := rfl
  rw [← e1, ← e2, e3, e4]
  exact a
end
end TR

/-! W0 -/
namespace TW
open PySem L2
def top (i : Nat) : Stmt := PySem.Challenge.pw_turnedrows_k23_whole_turns_none_fewer.main.body.getD i (.Pass ⟨0, 0, 0, 0⟩)
/-- the built-ins that the text calls are not shadowed; a constant of the text -/
structure Bt (mg : Str → Option Value) : Prop where
  len : mg "len" = none
  sorted : mg "sorted" = none
  list : mg "list" = none
  range : mg "range" = none
  tuple : mg "tuple" = none
  min : mg "min" = none
  max : mg "max" = none
  any : mg "any" = none
  int : mg "int" = none
  abs : mg "abs" = none
  isin : mg "isinstance" = none
  bool : mg "bool" = none
  most : ∃ t, mg "MOST_PIECES" = some (.int 40 t)
theorem same_upd {H : Hp} {p : Addr} {o : HO} (h : H p = none) : Same H (upd H p o) := fun b x e => by
  rw [upd_ne (ne_of_none e h)]
  exact e
theorem lt_line {n : Nat} (h : n ≤ 100000) : n < sizeLine := Nat.lt_of_le_of_lt h (by decide)
/-! ### data of ints -/
def nI (l : List Nat) : List Int := l.map fun (k : Nat) => (k : Int)
theorem nI_inj {l m : List Nat} (h : nI l = nI m) : l = m := by
  unfold nI at h
  have := congrArg (List.map Int.toNat) h
  rw [List.map_map, List.map_map] at this
  have e : (Int.toNat ∘ fun k : Nat => (k : Int)) = id := funext fun k => Int.toNat_natCast k
  rwa [e, List.map_id, List.map_id] at this
theorem dp_ints (K : PySem.W.Frag) (H : Hp) : ∀ ns : List Int, DpAll K H (ns.map V.int) (ns.map PyData.int)
  | [] => .nil
  | n :: r => .cons (.int n) (dp_ints K H r)
theorem ints_lay : ∀ ns : List Int, PyData.canLayAll0 (ns.map PyData.int) = true
  | [] => by simp [PyData.canLayAll0]
  | n :: r => by simp [PyData.canLayAll0, PyData.canLay0, ints_lay r]
theorem ints_depth : ∀ ns : List Int, PyData.depthAll (ns.map PyData.int) = 0
  | [] => by simp [PyData.depthAll]
  | n :: r => by simp [PyData.depthAll, PyData.depth, ints_depth r]
theorem shaped_of {d : PyData} (h1 : d.canLay0 = true) (h2 : d.depth ≤ 64) : SeqAt.shaped d = true := by
  unfold SeqAt.shaped
  rw [h1, decide_eq_true h2]
  rfl
theorem ints_shL (ns : List Int) : SeqAt.shaped (.list (ns.map PyData.int)) = true := shaped_of (by simp [PyData.canLay0, ints_lay]) (by simp [PyData.depth, ints_depth])
theorem ints_shT (ns : List Int) : SeqAt.shaped (.tuple (ns.map PyData.int)) = true := shaped_of (by simp [PyData.canLay0, ints_lay]) (by simp [PyData.depth, ints_depth])
theorem ints_eqv : ∀ ns ms : List Int, PyData.eqvAll (ns.map PyData.int) (ms.map PyData.int) = decide (ns = ms)
  | [], [] => by simp [PyData.eqvAll]
  | [], m :: r => by simp [PyData.eqvAll]
  | n :: r, [] => by simp [PyData.eqvAll]
  | n :: r, m :: q => by
    have ih := ints_eqv r q
    simp only [List.map_cons, PyData.eqvAll, PyData.eqv, ih]
    by_cases e : n = m
    · by_cases f : r = q <;> simp [e, f]
    · simp [e]
theorem eqvL (ns ms : List Int) : PyData.eqv (.list (ns.map PyData.int)) (.list (ms.map PyData.int)) = decide (ns = ms) := by rw [PyData.eqv, ints_eqv]
theorem eqvT (ns ms : List Int) : PyData.eqv (.tuple (ns.map PyData.int)) (.tuple (ms.map PyData.int)) = decide (ns = ms) := by rw [PyData.eqv, ints_eqv]
/-- tuples of ints -/
def tD (ns : List Int) : PyData := .tuple (ns.map PyData.int)
theorem tD_lay : ∀ L : List (List Int), PyData.canLayAll0 (L.map tD) = true
  | [] => by simp [PyData.canLayAll0]
  | n :: r => by simp [PyData.canLayAll0, tD, PyData.canLay0, ints_lay, tD_lay r]
theorem tD_depth : ∀ L : List (List Int), PyData.depthAll (L.map tD) ≤ 1
  | [] => by simp [PyData.depthAll]
  | n :: r => by
    have h1 := tD_depth r
    have h2 : (tD n).depth = 1 := by simp [tD, PyData.depth, ints_depth]
    simp only [List.map_cons, PyData.depthAll]
    omega
theorem tD_shL (L : List (List Int)) : SeqAt.shaped (.list (L.map tD)) = true := shaped_of (by simp [PyData.canLay0, tD_lay]) (by have := tD_depth L; simp only [PyData.depth]; omega)
theorem tD_shT (L : List (List Int)) : SeqAt.shaped (.tuple (L.map tD)) = true := shaped_of (by simp [PyData.canLay0, tD_lay]) (by have := tD_depth L; simp only [PyData.depth]; omega)
theorem tD_any (L : List (List Int)) (ns : List Int) : (L.map tD).any (fun z => PyData.eqv z (tD ns)) = decide (ns ∈ L) := by
  induction L with
  | nil => simp
  | cons m r ih =>
    rw [List.map_cons, List.any_cons, ih]
    unfold tD
    rw [eqvT]
    by_cases e : m = ns
    · simp [e]
    · by_cases f : ns ∈ r <;> simp [e, f, Ne.symm e]
/-- x not in t, t a tuple of tuples of ints (data at any depth) -/
def rOutT (K : PySem.W.Frag) : R2 := fun x y H Q => ∃ d ds, Dp K H x d ∧ Dp K H y (.tuple ds) ∧ SeqAt.shaped d = true ∧ SeqAt.shaped (.tuple ds) = true ∧ PyData.depthAll ds ≤ 60 ∧ Q (.bl (!ds.any fun z => PyData.eqv z d)) H
theorem op_outT {X : Cx} (hu : X.A.units + 64 < cLine) : OpR X (compareOp .NotIn) (rOutT X.K) := fun pins s σ H x y v u Q I rx ry h => by
  obtain ⟨d, ds, hx, hy, sx, sy, dep, q⟩ := h
  obtain ⟨as, reads1⟩ := Dp.reads I d x v hx rx
  obtain ⟨bs, reads2⟩ := Dp.reads I _ y u hy ry
  have room : X.A.units + 1 + min (PyData.depthAll ds) d.depth < cLine := by omega
  exact SeqAt.notIn_tuple_reads reads2 reads1 (SeqAt.canLay_of_shaped sy) (SeqAt.canLay_of_shaped sx) room ⟨.bl _, H, I, rfl, q⟩
end TW

/-! W1 -/
namespace TW
open PySem L2
theorem dV {a b : Int} (h : decide (V.int a = V.int b) = true) : a = b := V.int.inj (of_decide_eq_true h)
theorem dVn {a b : Int} (h : ¬ decide (V.int a = V.int b) = true) : a ≠ b := fun e => h (decide_eq_true (by rw [e]))
theorem dVi (a b : Int) : decide (V.int a = V.int b) = decide (a = b) := by
  by_cases e : a = b
  · rw [decide_eq_true e, decide_eq_true (by rw [e])]
  · rw [decide_eq_false e, decide_eq_false fun q => e (V.int.inj q)]
section
variable {P : Program} {w : World} {K : PySem.W.Frag} {mg : Str → Option Value} {base : Heap}
abbrev sDark : Stmt := top 12
theorem scDark : FnScope ["spot"] ["spot"] (defScope sDark) := ⟨rfl, rfl, rfl, by decide +kernel, rfl, by decide +kernel, by decide +kernel⟩
def spDark : Sp := fun vs H Q _ => ∃ s : Nat, vs = [.int s] ∧ Q (.int (TR.dk s : Nat)) H
theorem ok_dark {f : Addr} {fd : FuncData} (F : Fun K "dark_partner" "dark_partner" sDark f fd) : FnOk P w K mg base CX0 1 f fd ["spot"] spDark := by
  refine F.ok scDark (fun vs H Q E h => ?_) (fun cdv A outer s H vs Q E hr h => ?_)
  · obtain ⟨s, rfl, _⟩ := h
    rfl
  · obtain ⟨n, rfl, q⟩ := h
    refine ⟨_, pss_cons (ps_if (pt_cmpR op_eq (pe_op op_mod (pv 0) pe_int) pe_int (nomark _)) (pss_one (ps_ret (pe_op op_add (pv 0) pe_int))) pss_nil)
      (pss_one (ps_ret (pe_op op_sub (pv 0) pe_int))), ?_⟩
    refine ⟨_, rfl, _, _, rfl, rfl, (by show (0 : Int) < 2; decide), rfl, _, rfl, ?_⟩
    refine ite2 (fun h => ?_) (fun h => ?_)
    · have h : (n : Int) % 2 = 0 := dV h
      refine ⟨_, rfl, _, _, rfl, rfl, ?_⟩
      have e : ((TR.dk n : Nat) : Int) = (n : Int) + 1 := by unfold TR.dk; rw [if_pos (by omega)]; omega
      rw [e] at q
      exact q
    · have h : (n : Int) % 2 ≠ 0 := dVn h
      refine ⟨_, rfl, _, _, rfl, rfl, ?_⟩
      have e : ((TR.dk n : Nat) : Int) = (n : Int) - 1 := by unfold TR.dk; rw [if_neg (by omega)]; omega
      rw [e] at q
      exact q
/-! ### lines -/
def lineO (p q : Int) : HO := .tup [.int p, .int q]
abbrev sOri : Stmt := top 16
theorem scOri : FnScope ["line"] ["line"] (defScope sOri) := ⟨rfl, rfl, rfl, by decide +kernel, rfl, by decide +kernel, by decide +kernel⟩
def spOri : Sp := fun vs H Q _ => ∃ (a : Addr) (p q : Int), vs = [.ref a] ∧ H a = some (lineO p q) ∧ Q (.bl (decide ((p + q) % 2 = 0))) H
theorem ok_ori {f : Addr} {fd : FuncData} (F : Fun K "is_oriented" "is_oriented" sOri f fd) : FnOk P w K mg base CX0 1 f fd ["line"] spOri := by
  refine F.ok scOri (fun vs H Q E h => ?_) (fun cdv A outer s H vs Q E hr h => ?_)
  · obtain ⟨a, p, q, rfl, _⟩ := h
    rfl
  · obtain ⟨a, p, q, rfl, ha, k⟩ := h
    refine ⟨_, pss_one (ps_ret (pe_cmpR op_eq (pe_op op_mod (pe_op op_add (pe_ix ix_tup (pv 0) pe_int (fun _ _ => rfl)) (pe_ix ix_tup (pv 0) pe_int (fun _ _ => rfl))) pe_int) pe_int (nomark _))), ?_⟩
    refine ⟨_, rfl, a, _, _, _, rfl, rfl, SqT.of ha, rfl, _, rfl, a, _, _, _, rfl, rfl, SqT.of ha, rfl, _, _, rfl, rfl, _, _, rfl, rfl, (by show (0 : Int) < 2; decide), rfl, ?_⟩
    show Q (.bl (decide (V.int ((p + q) % 2) = V.int 0))) H
    rw [dVi]
    exact k
abbrev sShort : Stmt := top 18
theorem scShort : FnScope ["line"] ["line"] (defScope sShort) := ⟨rfl, rfl, rfl, by decide +kernel, rfl, by decide +kernel, by decide +kernel⟩
def spShort : Sp := fun vs H Q _ => ∃ (a : Addr) (p q : Int), vs = [.ref a] ∧ H a = some (lineO p q) ∧ Q (.bl (decide (p % 2 = 0) && decide (q = p + 1))) H
theorem ok_short {f : Addr} {fd : FuncData} (F : Fun K "is_short" "is_short" sShort f fd) : FnOk P w K mg base CX0 1 f fd ["line"] spShort := by
  refine F.ok scShort (fun vs H Q E h => ?_) (fun cdv A outer s H vs Q E hr h => ?_)
  · obtain ⟨a, p, q, rfl, _⟩ := h
    rfl
  · obtain ⟨a, p, q, rfl, ha, k⟩ := h
    refine ⟨_, pss_one (ps_ret (pe_and (pe_cmpR op_eq (pe_op op_mod (pe_ix ix_tup (pv 0) pe_int (fun _ _ => rfl)) pe_int) pe_int (nomark _))
      (pe_one (pe_cmpR op_eq (pe_ix ix_tup (pv 0) pe_int (fun _ _ => rfl)) (pe_op op_add (pe_ix ix_tup (pv 0) pe_int (fun _ _ => rfl)) pe_int) (nomark _))))), ?_⟩
    refine ⟨_, rfl, a, _, _, _, rfl, rfl, SqT.of ha, rfl, _, _, rfl, rfl, (by show (0 : Int) < 2; decide), rfl, _, rfl, ?_⟩
    refine ite2 (fun h => ?_) (fun h => ?_)
    · have h : p % 2 = 0 := dV h
      refine ⟨_, rfl, a, _, _, _, rfl, rfl, SqT.of ha, rfl, _, rfl, a, _, _, _, rfl, rfl, SqT.of ha, rfl, _, _, rfl, rfl, rfl, ?_⟩
      show Q (.bl (decide (V.int q = V.int (p + 1)))) H
      rw [decide_eq_true h, Bool.true_and] at k
      rw [dVi]
      exact k
    · have h : p % 2 ≠ 0 := dVn h
      rw [decide_eq_false h, Bool.false_and] at k
      exact k
abbrev sCross : Stmt := top 17
theorem scCross : FnScope ["line", "other", "within", "spot"] ["line", "other"] (defScope sCross) := ⟨rfl, rfl, rfl, by decide +kernel, rfl, by decide +kernel, by decide +kernel⟩
def spCross : Sp := fun vs H Q _ => ∃ (a b : Addr) (p q u v : Int), vs = [.ref a, .ref b] ∧ H a = some (lineO p q) ∧ H b = some (lineO u v) ∧ ∀ H', Same H H' → Q (.bl (TR.xB p q u v)) H'
theorem ok_cross {f : Addr} {fd : FuncData} (T : Bt mg) (F : Fun K "crosses" "crosses" sCross f fd) : FnOk P w K mg base CX0 1 f fd ["line", "other"] spCross := by
  refine F.ok scCross (fun vs H Q E h => ?_) (fun cdv A outer s H vs Q E hr h => ?_)
  · obtain ⟨a, b, p, q, u, v, rfl, _⟩ := h
    rfl
  · obtain ⟨a, b, p, q, u, v, rfl, ha, hb, k⟩ := h
    refine ⟨_, pss_cons (ps_setLc (i := 2) (own := [("spot", 3)]) (g := gName 3) (by rfl) scCross.nd rfl rfl (sw_true rfl rfl rfl (by decide +kernel)) (pi_tup (pv 1))
        (blkOk_by (own := [("spot", 3)]) (N := ["line", "other", "within", "spot"]) (sc := defScope sCross) (by decide +kernel)) (fun _ _ _ _ _ => pg_name (i := 3) scCross.nd rfl (Or.inl rfl))
        (fun _ _ _ _ _ => pts_one (pt_chain op_lt op_lt (pe_ix (r := rIxT K) ix_tup (pv 0) pe_int (fun _ _ => rfl)) (pv 3) (pe_ix (r := rIxT K) ix_tup (pv 0) pe_int (fun _ _ => rfl)))) (fun _ _ _ _ _ => pv 3))
      (pss_one (ps_ret (pe_cmpR op_eq (pe_callB call_len_seq (by rfl) T.len PySem.boot_len (pa_cons (pv 2) pa_nil)) pe_int (nomark _)))), ?_⟩
    refine ⟨_, rfl, b, rfl, ⟨_, SqT.of hb⟩, fun D hD => ?_⟩
    have sm : ∀ o, Same H (upd H D o) := fun o => same_upd hD
    refine lc_tup (K := K) (a := b) (xs := [.int u, .int v]) (fun i H' => ∃ acc, H' = upd H D (.lst acc) ∧ acc = (([u, v].take i).filter (fun z => decide (p < z ∧ z < q))).map V.int)
      ⟨[], rfl, rfl⟩ (fun i H' _ ⟨acc, e, _⟩ => by rw [e]; exact SqT.of (sm _ _ _ hb)) ?_ ?_
    · rintro i x H' hi ⟨acc, rfl, eacc⟩
      have hl : i < 2 := (List.getElem?_eq_some_iff.mp hi).1
      obtain ⟨z, rfl, hz⟩ : ∃ z, x = V.int z ∧ [u, v][i]? = some z := by
        match i, hl, hi with
        | 0, _, hi => exact ⟨u, (Option.some.inj hi).symm, rfl⟩
        | 1, _, hi => exact ⟨v, (Option.some.inj hi).symm, rfl⟩
      have et : [u, v].take (i + 1) = [u, v].take i ++ [z] := by rw [List.take_add_one, hz]; rfl
      have la : acc.length ≤ 2 := by
        rw [eacc, List.length_map]
        exact Nat.le_trans (List.length_filter_le _ _) (by rw [List.length_take]; exact Nat.min_le_right _ _)
      have ha' := sm (.lst acc) _ _ ha
      refine ⟨rfl, ?_⟩
      refine ⟨_, rfl, a, _, _, _, rfl, rfl, SqT.of ha', rfl, _, rfl, _, _, rfl, rfl, _, rfl, ?_⟩
      refine ite2 (fun h => ?_) (fun h => ?_)
      · have h1 : p < z := of_decide_eq_true h
        refine ⟨_, rfl, a, _, _, _, rfl, rfl, SqT.of ha', rfl, _, _, rfl, rfl, _, rfl, ?_⟩
        refine ite2 (fun h => ?_) (fun h => ?_)
        · have h2 : z < q := of_decide_eq_true h
          refine ⟨_, rfl, acc, upd_same, lt_line (by omega), ?_⟩
          refine ⟨acc ++ [V.int z], upd_upd, ?_⟩
          rw [et, List.filter_append, List.map_append, ← eacc, List.filter_cons_of_pos (by rw [decide_eq_true_iff]; exact ⟨h1, h2⟩)]
          rfl
        · have h2 : ¬ z < q := fun e => h (decide_eq_true e)
          refine ⟨acc, rfl, ?_⟩
          rw [et, List.filter_append, List.map_append, ← eacc, List.filter_cons_of_neg (by rw [decide_eq_true_iff]; exact fun e => h2 e.2)]
          exact (List.append_nil _).symm
      · have h1 : ¬ p < z := fun e => h (decide_eq_true e)
        refine ⟨_, rfl, ?_⟩
        refine iteF ⟨acc, rfl, ?_⟩
        rw [et, List.filter_append, List.map_append, ← eacc, List.filter_cons_of_neg (by rw [decide_eq_true_iff]; exact fun e => h1 e.1)]
        exact (List.append_nil _).symm
    · rintro H' ⟨acc, rfl, eacc⟩
      refine ⟨_, rfl, D, acc, rfl, .inl (.inl (.inl upd_same)), rfl, ?_⟩
      have e : decide (V.int (acc.length : Int) = V.int 1) = TR.xB p q u v := by
        rw [dVi, eacc, List.length_map]
        unfold TR.xB
        by_cases f1 : p < u ∧ u < q <;> by_cases f2 : p < v ∧ v < q <;> simp [f1, f2, List.filter_cons]
      rw [← e] at k
      exact k _ (sm _)
end
end TW

/-! W2 -/
namespace TW
open PySem L2
def rowO (r : List Int) : HO := .tup (r.map V.int)
section
variable {P : Program} {w : World} {K : PySem.W.Frag} {mg : Str → Option Value} {base : Heap}
theorem hu64 {A : Around} {k : Nat} (hr : Room k A) : A.units + 64 < cLine := hr.units
theorem sorted_uniq {l m : List Int} (p : l.Perm m) (h1 : l.Pairwise (· ≤ ·)) (h2 : m.Pairwise (· ≤ ·)) : l = m :=
  List.Perm.eq_of_pairwise (le := (· ≤ ·)) (fun a b _ _ x y => Int.le_antisymm x y) h1 h2 p
def onesI (n : Nat) : List Int := (List.range n).map fun (k : Nat) => 1 + (k : Int)
theorem onesI_asc (n : Nat) : (onesI n).Pairwise (· ≤ ·) := by
  unfold onesI
  rw [List.pairwise_map]
  exact List.pairwise_lt_range.imp fun {a b} h => by omega
theorem onesI_V (n : Nat) : rgV 1 ((n : Int) + 1) = (onesI n).map V.int := by
  unfold rgV onesI
  rw [show ((n : Int) + 1 - 1).toNat = n by omega, List.map_map]
  rfl
theorem absI (x : Int) : (if x < 0 then -x else x) = (x.natAbs : Int) := by
  split <;> omega
theorem abs_ones {n : Nat} {r : List Int} (h : TR.SR n r) : (r.map fun (x : Int) => if x < 0 then -x else x).Perm (onesI n) := by
  have e1 : (r.map fun (x : Int) => if x < 0 then -x else x) = (r.map Int.natAbs).map fun (k : Nat) => (k : Int) := by
    rw [List.map_map]
    exact List.map_congr_left fun x _ => absI x
  have e2 : onesI n = (List.range' 1 n).map fun (k : Nat) => (k : Int) := by
    unfold onesI
    rw [List.range'_eq_map_range, List.map_map]
    exact List.map_congr_left fun k _ => by simp
  rw [e1, e2]
  exact h.abs_perm.map _
abbrev sCheck : Stmt := top 7
theorem scCheck : FnScope ["row", "n", "number"] ["row"] (defScope sCheck) := ⟨rfl, rfl, rfl, by decide +kernel, rfl, by decide +kernel, by decide +kernel⟩
def spCheck : Sp := fun vs H Q _ => ∃ (a : Addr) (n : Nat) (r : List Int), vs = [.ref a] ∧ H a = some (rowO r) ∧ TR.SR n r ∧ n ≤ 40 ∧ ∀ H', Same H H' → Q (.ref a) H'
theorem ok_check {f : Addr} {fd : FuncData} (T : Bt mg) (F : Fun K "check_signed" "check_signed" sCheck f fd) : FnOk P w K mg base CX0 1 f fd ["row"] spCheck := by
  refine F.ok scCheck (fun vs H Q E h => ?_) (fun cdv A outer s H vs Q E hr h => ?_)
  · obtain ⟨a, n, r, rfl, _⟩ := h
    rfl
  · obtain ⟨a, n, r, rfl, ha, sr, hn, k⟩ := h
    obtain ⟨tm, hm⟩ := T.most
    refine ⟨_, pss_cons (ps_set (i := 1) scCheck.nd rfl (.inl rfl) (pe_callB call_len_seq (by rfl) T.len PySem.boot_len (pa_cons (pv 0) pa_nil)))
      (pss_cons (ps_if (PW.pt (pw_or (pt_cmpR op_gt (pv 1) (pe_glob (v := .int 40) rfl hm ⟨_, rfl⟩) (nomark _)) (pw_or1 (pt_cmpR (op_neD (hu64 hr))
          (pe_callB cr_sortedI (by rfl) T.sorted (by decide +kernel) (pa_cons (pe_lc (own := [("number", 2)]) (g := gName 2) (by rfl) scCheck.nd (pi_tup (pv 0))
            (blkOk_by (own := [("number", 2)]) (N := ["row", "n", "number"]) (sc := defScope sCheck) (by decide +kernel)) (fun _ _ _ _ _ => pg_name (i := 2) scCheck.nd rfl (Or.inl rfl))
            (fun _ _ _ _ _ => pts_nil) (fun _ _ _ _ _ => pe_callB call_abs (by rfl) T.abs (by decide +kernel) (pa_cons (pv 2) pa_nil))) pa_nil))
          (pe_listRg rfl (by rfl) T.list (prg_2 (by rfl) T.range pe_int (pe_op op_add (pv 1) pe_int))) (nomark _)))))
        (pss_one (ps_never)) pss_nil)
      (pss_one (ps_ret (pv 0)))), ?_⟩
    refine ⟨_, rfl, a, _, rfl, .inr (SqT.of ha), ?_⟩
    have el : (r.map V.int).length = n := by rw [List.length_map, sr.len]
    rw [el]
    refine ⟨_, rfl, _, _, rfl, rfl, _, rfl, ?_⟩
    have h40 : decide ((n : Int) > 40) = false := decide_eq_false (by omega)
    show if decide ((n : Int) > 40) = true then _ else _
    rw [h40]
    refine iteF ?_
    refine ⟨_, rfl, a, rfl, ⟨_, SqT.of ha⟩, fun D hD => ?_⟩
    have sm : ∀ o, Same H (upd H D o) := fun o => same_upd hD
    refine lc_tup (K := K) (a := a) (xs := r.map V.int) (fun i H' => H' = upd H D (.lst (((r.take i).map fun (x : Int) => if x < 0 then -x else x).map V.int)))
      rfl (fun i H' _ e => by rw [e]; exact SqT.of (sm _ _ _ ha)) ?_ ?_
    · rintro i x H' hi rfl
      rw [List.getElem?_map] at hi
      obtain ⟨z, hz, rfl⟩ := Option.map_eq_some_iff.mp hi
      have hl := (List.getElem?_eq_some_iff.mp hz).1
      rw [sr.len] at hl
      refine ⟨rfl, ?_⟩
      refine iteT (B := True) ?_
      refine ⟨_, rfl, _, rfl, _, upd_same, lt_line (by rw [List.length_map, List.length_map, List.length_take]; omega), ?_⟩
      rw [upd_upd, List.take_add_one, hz]
      simp
    · rintro H' rfl
      rw [el, List.take_of_length_le (by rw [sr.len]; exact Nat.le_refl _)]
      refine ⟨D, _, rfl, .inl (.inl upd_same), fun ns p hp hs np => ?_⟩
      have ens : ns = onesI n := sorted_uniq (hp.trans (abs_ones sr)) hs (onesI_asc n)
      subst ens
      refine ⟨_, rfl, _, _, rfl, rfl, _, _, rfl, rfl, ⟨by decide, by decide, by omega, by omega, by omega⟩, fun q nq => ?_⟩
      rw [onesI_V]
      have npq : p ≠ q := fun e => by
        rw [e, upd_same] at nq
        cases nq
      refine ⟨_, _, .lst (.inl (.inl (Eq.trans (upd_ne npq) upd_same))) (dp_ints K _ _), .lst (.inl (.inl upd_same)) (dp_ints K _ _), ints_shL _, ints_shL _, ?_⟩
      rw [eqvL]
      refine ⟨_, rfl, ?_⟩
      refine iteNS rfl ⟨_, rfl, ?_⟩
      refine k _ (((sm _).trans (same_upd np)).trans (same_upd nq))
end
end TW

/-! W3 -/
namespace TW
open PySem L2
section
variable {P : Program} {w : World} {K : PySem.W.Frag} {mg : Str → Option Value} {base : Heap}
abbrev sNeed : Stmt := top 5
theorem scNeed : FnScope ["first", "second"] ["first", "second"] (defScope sNeed) := ⟨rfl, rfl, rfl, by decide +kernel, rfl, by decide +kernel, by decide +kernel⟩
def spNeed : Sp := fun vs H Q _ => ∃ (a b : Addr) (f s : List Int), vs = [.ref a, .ref b] ∧ H a = some (rowO f) ∧ H b = some (rowO s) ∧ f.length = s.length ∧ Q .non H
theorem ok_need {f : Addr} {fd : FuncData} (T : Bt mg) (F : Fun K "need_same_length" "need_same_length" sNeed f fd) : FnOk P w K mg base CX0 1 f fd ["first", "second"] spNeed := by
  refine F.ok scNeed (fun vs H Q E h => ?_) (fun cdv A outer s H vs Q E hr h => ?_)
  · obtain ⟨a, b, f, s, rfl, _⟩ := h
    rfl
  · obtain ⟨a, b, f, s, rfl, ha, hb, e, k⟩ := h
    refine ⟨_, pss_one (ps_if (pt_cmpR op_ne (pe_callB call_len_seq (by rfl) T.len PySem.boot_len (pa_cons (pv 0) pa_nil)) (pe_callB call_len_seq (by rfl) T.len PySem.boot_len (pa_cons (pv 1) pa_nil)) (nomark _))
      (pss_one ps_never) pss_nil), ?_⟩
    refine ⟨_, rfl, a, _, rfl, .inr (SqT.of ha), _, rfl, b, _, rfl, .inr (SqT.of hb), rfl, _, rfl, ?_⟩
    exact iteNS (by rw [List.length_map, List.length_map, e]) k
/-! ### the relative row -/
abbrev sRel : Stmt := top 8
theorem scRel : FnScope ["first", "second", "places", "place", "number"] ["first", "second"] (defScope sRel) := ⟨rfl, rfl, rfl, by decide +kernel, rfl, by decide +kernel, by decide +kernel⟩
def spRel : Sp := fun vs H Q _ => ∃ (a b : Addr) (n : Nat) (f s : List Int), vs = [.ref a, .ref b] ∧ H a = some (rowO f) ∧ H b = some (rowO s) ∧ TR.SR n f ∧ TR.SR n s ∧ n ≤ 40 ∧
  ∀ H' p R, Same H H' → H p = none → H' p = some (rowO R) → TR.isRel f s R → Q (.ref p) H'
theorem getD_some {l : List Int} {k : Nat} (h : k < l.length) : l[k]? = some (l.getD k 0) := by
  rw [List.getD_eq_getElem?_getD, List.getElem?_eq_getElem h]
  rfl
theorem piece_at {n : Nat} {f s : List Int} (hf : TR.SR n f) (hs : TR.SR n s) {p : Nat} (hp : p < n) : ∃ q, q < n ∧ (f.getD p 0 = s.getD q 0 ∨ f.getD p 0 = - s.getD q 0) := by
  have h1 : (f.getD p 0).natAbs ∈ f.map Int.natAbs := List.mem_map.mpr ⟨_, List.mem_of_getElem? (getD_some (by rw [hf.len]; exact hp)), rfl⟩
  have h2 := hs.abs_perm.symm.mem_iff.mp (hf.abs_perm.mem_iff.mp h1)
  obtain ⟨x, hx, e⟩ := List.mem_map.mp h2
  obtain ⟨q, hq⟩ := List.mem_iff_getElem?.mp hx
  have hl := (List.getElem?_eq_some_iff.mp hq).1
  rw [hs.len] at hl
  have e2 : s.getD q 0 = x := TR.getD_at hq
  exact ⟨q, hl, by omega⟩
/-- the dict behind i turns -/
def PlD (s : List Int) (i : Nat) (kvs : List (Key × V)) : Prop := kvs.length ≤ 2 * i ∧ ∀ q, q < i → valV kvs (Sum.inl (s.getD q 0)) = some (.int ((q : Int) + 1)) ∧ valV kvs (Sum.inl (-(s.getD q 0))) = some (.int (-((q : Int) + 1)))
theorem PlD.put {n i : Nat} {s : List Int} {kvs : List (Key × V)} (hs : TR.SR n s) (hi : i < n) (h : PlD s i kvs) : PlD s (i + 1) (putK (putK kvs (Sum.inl (s.getD i 0)) (.int ((i : Int) + 1))) (Sum.inl (-(s.getD i 0))) (.int (-((i : Int) + 1)))) := by
  obtain ⟨h1, h2⟩ := h
  have l1 := length_putK kvs (Sum.inl (s.getD i 0)) (.int ((i : Int) + 1))
  have l2 := length_putK (putK kvs (Sum.inl (s.getD i 0)) (.int ((i : Int) + 1))) (Sum.inl (-(s.getD i 0))) (.int (-((i : Int) + 1)))
  refine ⟨by omega, fun q hq => ?_⟩
  have bi := hs.bd i hi
  have ne : ∀ {x y : Int}, x ≠ y → (Sum.inl x : Key) ≠ Sum.inl y := fun h e => h (Sum.inl.inj e)
  by_cases e : q = i
  · subst e
    constructor
    · rw [valV_put, if_neg (ne (by omega)), valV_put, if_pos rfl]
    · rw [valV_put, if_pos rfl]
  · have bq := hs.bd q (by omega)
    have d : (s.getD q 0).natAbs ≠ (s.getD i 0).natAbs := fun z => e (hs.inj q i (by omega) hi z)
    obtain ⟨a1, a2⟩ := h2 q (by omega)
    constructor
    · rw [valV_put, if_neg (ne (by omega)), valV_put, if_neg (ne (by omega)), a1]
    · rw [valV_put, if_neg (ne (by omega)), valV_put, if_neg (ne (by omega)), a2]
theorem ok_rel {f fC fN : Addr} {fd fdC fdN : FuncData} (T : Bt mg) (F : Fun K "relative_signed" "relative_signed" sRel f fd)
    (FC : Fun K "check_signed" "check_signed" sCheck fC fdC) (bC : Binds K fdC ["row"] []) (gC : mg "check_signed" = some (.ref fC)) (FN : Fun K "need_same_length" "need_same_length" sNeed fN fdN) (bN : Binds K fdN ["first", "second"] []) (gN : mg "need_same_length" = some (.ref fN)) :
    FnOk P w K mg base CX0 2 f fd ["first", "second"] spRel := by
  have GC : FnOk P w K mg base CX0 1 fC fdC ["row"] spCheck := ok_check T FC
  have GN : FnOk P w K mg base CX0 1 fN fdN ["first", "second"] spNeed := ok_need T FN
  refine F.ok scRel (fun vs H Q E h => ?_) (fun cdv A outer s H vs Q E hr h => ?_)
  · obtain ⟨a, b, n, f, s, rfl, _⟩ := h
    rfl
  · obtain ⟨a, b, n, f, s, rfl, ha, hb, sf, ss, hn, k⟩ := h
    have hu := hu_of hr
    refine ⟨_, pss_cons (ps_expr (pe_call GC hr (by rfl) gC FC.kp bC .nil pass0 (pa_cons (pv 0) pa_nil)))
      (pss_cons (ps_expr (pe_call GC hr (by rfl) gC FC.kp bC .nil pass0 (pa_cons (pv 1) pa_nil)))
      (pss_cons (ps_expr (pe_call GN hr (by rfl) gN FN.kp bN .nil pass0 (pa_cons (pv 0) (pa_cons (pv 1) pa_nil))))
      (pss_cons (ps_set (i := 2) scRel.nd rfl (Or.inr rfl) (pe_dnewK))
      (pss_cons (ps_for PassesOwn.never rfl (pi_range1 rfl T.range (pa_cons (pe_callB call_len_seq (by rfl) T.len PySem.boot_len (pa_cons (pv 1) pa_nil)) pa_nil)) (pg_name (i := 3) scRel.nd rfl (Or.inl rfl))
        (pss_cons (ps_dput hu (pv 2) (pe_ix ix_tup (pv 1) (pv 3) (fun _ _ => rfl)) (pe_op op_add (pv 3) pe_int) rfl)
        (pss_one (ps_dput hu (pv 2) (pe_un un_neg (pe_ix ix_tup (pv 1) (pv 3) (fun _ _ => rfl))) (pe_un un_neg (pe_op op_add (pv 3) pe_int)) rfl))))
      (pss_one (ps_ret (pe_callTy call_tuple_of (by rfl) T.tuple (by decide +kernel) (pa_cons (pe_lc (own := [("number", 4)]) (g := gName 4) (by rfl) scRel.nd (pi_tup (pv 0))
            (blkOk_by (own := [("number", 4)]) (N := ["first", "second", "places", "place", "number"]) (sc := defScope sRel) (by decide +kernel)) (fun _ _ _ _ _ => pg_name (i := 4) scRel.nd rfl (Or.inl rfl))
            (fun _ _ _ _ _ => pts_nil) (fun _ _ _ _ _ => pe_dget hu (pv 2) (pv 4) (fun _ _ => rfl))) pa_nil)))))))), ?_⟩
    refine ⟨_, rfl, a, n, f, rfl, ha, sf, hn, fun H1 s1 => ?_⟩
    refine ⟨_, rfl, b, n, s, rfl, s1 _ _ hb, ss, hn, fun H2 s2 => ?_⟩
    have s02 := s1.trans s2
    refine ⟨_, rfl, _, rfl, a, b, f, s, rfl, s02 _ _ ha, s02 _ _ hb, by rw [sf.len, ss.len], ?_⟩
    intro d hd
    have hd0 := s02.free hd
    refine ⟨_, rfl, b, _, rfl, .inr (SqT.of (same_upd hd _ _ (s02 _ _ hb))), ?_⟩
    have el : (s.map V.int).length = n := by rw [List.length_map, ss.len]
    rw [el]
    refine ⟨_, rfl, by omega, by omega, ?_⟩
    rw [show ((n : Nat) : Int).toNat = n from Int.toNat_natCast n]
    refine for_range (lo := 0) (n := n) (fun i σ H' => ∃ kvs v, σ = [some (.ref a), some (.ref b), some (.ref d), v, none] ∧ H' = upd H2 d (.dK kvs) ∧ PlD s i kvs)
      ⟨[], none, rfl, rfl, Nat.zero_le _, fun q hq => absurd hq (Nat.not_lt_zero q)⟩ ?_ ?_
    · rintro i σ H' hi ⟨kvs, v, rfl, rfl, hP⟩
      have sm := same_upd (o := .dK kvs) hd
      have e0 : (0 : Int) + (i : Int) = (i : Int) := by omega
      have hsi : (s.map V.int)[i]? = some (.int (s.getD i 0)) := by rw [List.getElem?_map, getD_some (by rw [ss.len]; exact hi)]; rfl
      refine ⟨_, rfl, _, _, rfl, rfl, ?_⟩
      refine ⟨_, rfl, _, rfl, _, rfl, b, _, _, _, rfl, rfl, SqT.of (sm _ _ (s02 _ _ hb)), (by rw [e0]; exact atI_nat hsi), ?_⟩
      refine ⟨d, _, rfl, DPut.k (k := Sum.inl (s.getD i 0)) upd_same (lt_line (by have := hP.1; omega)), ?_⟩
      rw [upd_upd]
      have sm2 := same_upd (o := .dK (putK kvs (Sum.inl (s.getD i 0)) (.int (0 + (i : Int) + 1)))) hd
      refine ⟨_, rfl, _, _, rfl, rfl, _, rfl, ?_⟩
      refine ⟨_, rfl, _, rfl, _, rfl, b, _, _, _, rfl, rfl, SqT.of (sm2 _ _ (s02 _ _ hb)), (by rw [e0]; exact atI_nat hsi), _, rfl, ?_⟩
      refine ⟨d, _, rfl, DPut.k (k := Sum.inl (-(s.getD i 0))) upd_same (Nat.lt_of_le_of_lt (length_putK _ _ _) (lt_line (by have := hP.1; omega))), ?_⟩
      rw [upd_upd, e0]
      exact ⟨_, _, rfl, rfl, hP.put ss hi⟩
    · rintro σ H' ⟨kvs, v, rfl, rfl, hP⟩
      have sm := same_upd (o := .dK kvs) hd
      have s03 := s02.trans sm
      refine ⟨_, rfl, a, rfl, ⟨_, SqT.of (s03 _ _ ha)⟩, fun D hD => ?_⟩
      have nDd : d ≠ D := fun e => by
        rw [← e, upd_same] at hD
        cases hD
      have sD : ∀ o, Same (upd H2 d (.dK kvs)) (upd (upd H2 d (.dK kvs)) D o) := fun o => same_upd hD
      refine lc_tup (K := K) (a := a) (xs := f.map V.int) (fun i H' => ∃ R : List Int, H' = upd (upd H2 d (.dK kvs)) D (.lst (R.map V.int)) ∧ R.length = i ∧
          ∀ p, p < i → ∃ q, q < n ∧ ((f.getD p 0 = s.getD q 0 ∧ R.getD p 0 = (q : Int) + 1) ∨ (f.getD p 0 = - s.getD q 0 ∧ R.getD p 0 = -((q : Int) + 1))))
        ⟨[], rfl, rfl, fun p hp => absurd hp (Nat.not_lt_zero p)⟩ (fun i H' _ ⟨R, e, _⟩ => by rw [e]; exact SqT.of ((s03.trans (sD _)) _ _ ha)) ?_ ?_
      · rintro i x H' hi ⟨R, rfl, lR, hR⟩
        rw [List.getElem?_map] at hi
        obtain ⟨z, hz, rfl⟩ := Option.map_eq_some_iff.mp hi
        have hl := (List.getElem?_eq_some_iff.mp hz).1
        rw [sf.len] at hl
        have ez : f.getD i 0 = z := TR.getD_at hz
        obtain ⟨q, hq, hc⟩ := piece_at sf ss hl
        have key : ∃ y : Int, valV kvs (Sum.inl z) = some (.int y) ∧ ((f.getD i 0 = s.getD q 0 ∧ y = (q : Int) + 1) ∨ (f.getD i 0 = - s.getD q 0 ∧ y = -((q : Int) + 1))) := by
          obtain ⟨g1, g2⟩ := hP.2 q hq
          rcases hc with hc | hc
          · exact ⟨_, by rw [← ez, hc]; exact g1, .inl ⟨hc, rfl⟩⟩
          · exact ⟨_, by rw [← ez, hc]; exact g2, .inr ⟨hc, rfl⟩⟩
        obtain ⟨y, y1, y2⟩ := key
        refine ⟨rfl, iteT (B := True) ?_⟩
        refine ⟨_, rfl, _, rfl, d, _, rfl, .inl ⟨kvs, Sum.inl z, .inl (Eq.trans (upd_ne nDd) upd_same), rfl, y1.symm⟩, ?_⟩
        refine ⟨_, upd_same, lt_line (by rw [List.length_map]; omega), ?_⟩
        refine ⟨R ++ [y], by rw [upd_upd, List.map_append]; rfl, by rw [List.length_append, lR]; rfl, fun p hp => ?_⟩
        by_cases e : p = i
        · refine ⟨q, hq, ?_⟩
          rw [e, show (R ++ [y]).getD i 0 = y from TR.getD_at (by rw [← lR, List.getElem?_append_right (Nat.le_refl _), Nat.sub_self]; rfl)]
          exact y2
        · obtain ⟨q', q1, q2⟩ := hR p (by omega)
          refine ⟨q', q1, ?_⟩
          rw [show (R ++ [y]).getD p 0 = R.getD p 0 from TR.getD_at (by rw [List.getElem?_append_left (by omega)]; exact getD_some (by omega))]
          exact q2
      · rintro H' ⟨R, rfl, lR, hR⟩
        rw [List.length_map] at lR hR
        refine ⟨D, _, rfl, .inl ⟨.inl (.inl upd_same), fun p hp => ?_⟩⟩
        have sp := same_upd (o := .tup (R.map V.int)) hp
        refine k _ p R ((s03.trans (sD _)).trans sp) ((s03.trans (sD _)).free hp) upd_same ⟨lR, fun p hp => ?_⟩
        obtain ⟨q, q1, q2⟩ := hR p hp
        exact ⟨q, by rw [ss.len]; exact q1, q2⟩
end
end TW

/-! W4 -/
namespace TW
open PySem L2
/-! ### y = {k: v for ..}, y a plain local name -/
section
variable {X : Cx}
/-- what a dict comprehension's parts are -/
structure DcArgs (X : Cx) (kx vx tg iter : Expr) (ifs : List Expr) (scope : Scope) (own : List (Str × Nat)) (wi : TI) (g : TG) (tt : TT) (tk tv : TE) : Prop where
  wk : PI X tg iter wi
  ok : BlkOk X.N X.env.scope scope own
  g : ∀ s H C cl fp, PG (X.blk s H scope (compEnvC scope cl C X.env) fp) tg g
  t : ∀ s H C cl fp, PTs (X.blk s H scope (compEnvC scope cl C X.env) fp) ifs tt
  k : ∀ s H C cl fp, PE (X.blk s H scope (compEnvC scope cl C X.env) fp) kx tk
  v : ∀ s H C cl fp, PE (X.blk s H scope (compEnvC scope cl C X.env) fp) vx tv
  fs : ∀ x, foldedSetIterable iter X.env x = pure x := by intro _; rfl
theorem setDc {i : Nat} {y : Str} {py pos spos : Pos} {kx vx tg iter : Expr} {ifs : List Expr} {scope : Scope} {own : List (Str × Nat)} {wi : TI} {g : TG} {tt : TT} {tk tv : TE} (hc : X.calm = true) (nd : X.N.Nodup)
    (hy : X.N[i]? = some y) (loc : X.env.scope.names.lookup y = some .local) (sw : swapsWith (.DictComp kx vx [⟨tg, iter, ifs, 0⟩] scope pos) (some (.Name y py)) spos.line X.env = pure true) (a : DcArgs X kx vx tg iter ifs scope own wi g tt tk tv) :
    PS X (.Assign [.Name y py] (.DictComp kx vx [⟨tg, iter, ifs, 0⟩] scope pos) spos) (tAsg (tDc wi g tt tk tv (own.map (·.2))) (gName i)) := ⟨fun pins s σ H D I h => by
  rw [exec_Assign_Name_used _ _ _ _ sw]
  refine wpAny_bind (wpAny_standAt (wpAny_bind ?_))
  show wpAny _ _ (do let _ ← comprehension (.DictComp kx vx [⟨tg, iter, ifs, 0⟩] scope pos) scope X.env (firstIterPos [⟨tg, iter, ifs, 0⟩] pos) newDict false (eval iter X.env) (some (assign (.Name y py) X.env))) _ _ s
  have h2 : tDc wi g tt tk tv (own.map (·.2)) σ H fun x H1 => gName i x σ H1 D.nx := h
  have done := dc_core (use := some (assign (.Name y py) X.env)) (pos := pos) (pos' := firstIterPos [⟨tg, iter, ifs, 0⟩] pos) (Qf := fun _ s' => SP X pins D .next s') hc nd I a.wk a.ok a.g a.t a.k a.v a.fs h2 fun L C s' m H' I' q hn fo => by
    show wpAny _ _ (assign (.Name y py) X.env (.ref L)) _ _ _
    obtain ⟨f0, f1, f2, f3, f4, f5⟩ := fo
    refine wpAny_assign_Name (store_ok2 (v := V.ref L) I' nd hy (.inl loc) rfl (fun s2 I2 hh => ?_) (.inr loc))
    obtain ⟨b, sb, hb⟩ := hh
    have ne : C ≠ b := hb.elim (fun z => by rw [z]; exact f1) (fun z e => f4 y b z e.symm)
    exact ⟨m, hn.sameBut sb ne, fun h3 sb3 => ⟨_, H', I2.turned (t' := s2.toks) (fun b o hb e => (sb3.2 b hb).trans e) f0 f1 f3 f4 f5, q⟩⟩
  exact wpAny_bind (thn done fun _ s' hq => wpAny_pure (wpAny_pure hq))⟩
theorem sw_dict {kx vx : Expr} {gs : List Comprehension} {scope : Scope} {pos py : Pos} {y : Str} {l : Nat} {env : Env} (hk : env.scope.kind = .function) (hy : env.scope.names.lookup y = some .local) (hl : (py.line == pos.line) = true)
    (ha : (scope.names.any fun (n, k) => n == y && (k == .local || k == .cell)) = false) : swapsWith (.DictComp kx vx gs scope pos) (some (.Name y py)) l env = pure true := by
  have h1 : env.kindOf y = some .local := hy
  have h2 : env.blockKind = .function := by
    unfold Env.blockKind
    rw [hk]
    rfl
  unfold swapsWith
  simp only [h1, h2, ha, hl, Expr.pos]
  rfl
/-- what a turn of a dict comprehension asks: from the item x at H, to N of the heap with the new entry -/
abbrev DcTurn (g : TG) (tt : TT) (tk tv : TE) (vs : List Nat) (σ : St) (D : Addr) (x : V) (H : Hp) (N : Hp → Prop) : Prop :=
  g x (wipe σ vs) H fun σ2 H2 => wipe σ2 vs = wipe σ vs ∧ tt σ2 H2 fun b H3 =>
    if b = true then tk σ2 H3 fun y H4 => tv σ2 H4 fun z H5 => ∃ kvs k, y = kV k ∧ H5 D = some (.dK kvs) ∧ kvs.length < sizeLine ∧ N (upd H5 D (.dK (putK kvs k z))) else N H3
/-- a dict comprehension over range(n) -/
theorem dc_rng {n : Nat} {g : TG} {tt : TT} {tk tv : TE} {vs : List Nat} {σ : St} {H1 : Hp} {D : Addr} {Qd : Hp → Prop} (Pv : Nat → Hp → Prop) (h0 : Pv 0 (upd H1 D (.dK [])))
    (hs : ∀ i H, i < n → Pv i H → DcTurn g tt tk tv vs σ D (.int (i : Int)) H (Pv (i + 1))) (hd : ∀ H, Pv n H → Qd H) :
    ∃ W : Nat → Nat → Hp → Prop, (∃ m, W 0 m (upd H1 D (.dK []))) ∧ ∀ i m H, W i m H → ((Itr 0 n).stop i H ∧ Qd H) ∨ ((Itr 0 n).go i H ∧ ∃ Nx : Hp → Prop, (∀ H', Nx H' → ∃ m', m' < m ∧ W (i + 1) m' H') ∧
      ∀ x H', (Itr 0 n).yld i H x H' → DcTurn g tt tk tv vs σ D x H' Nx) := by
  refine ⟨fun i m H => m + i = n ∧ Pv i H, ⟨n, Nat.add_zero n, h0⟩, fun i m H h => ?_⟩
  obtain ⟨em, p⟩ := h
  by_cases lt : i < n
  · refine .inr ⟨lt, Pv (i + 1), fun H' hN => ⟨m - 1, by omega, by omega, hN⟩, fun x H' hy => ?_⟩
    obtain ⟨ex, eH⟩ := hy
    subst ex eH
    rw [show (0 : Int) + (i : Int) = (i : Int) by omega]
    exact hs i _ lt p
  · have e : i = n := by omega
    subst e
    exact .inl ⟨Nat.le_refl _, hd H p⟩
end
section
variable {P : Program} {w : World} {K : PySem.W.Frag} {mg : Str → Option Value} {base : Heap}
/-! ### marks -/
def marksO (n : Nat) (mk : Nat → Nat) : HO := .tup ((nI ((List.range (2 * n + 2)).map mk)).map V.int)
abbrev sMarks : Stmt := top 10
theorem scMarks : FnScope ["row", "found", "number"] ["row"] (defScope sMarks) := ⟨rfl, rfl, rfl, by decide +kernel, rfl, by decide +kernel, by decide +kernel⟩
def spMarks : Sp := fun vs H Q _ => ∃ (a : Addr) (n : Nat) (r : List Int), vs = [.ref a] ∧ H a = some (rowO r) ∧ TR.SR n r ∧ n ≤ 40 ∧
  ∀ H' p, Same H H' → H p = none → H' p = some (marksO n (TR.mkF r)) → Q (.ref p) H'
theorem nI_append (l m : List Nat) : nI (l ++ m) = nI l ++ nI m := List.map_append
theorem marks_step {n i : Nat} {r : List Int} (sr : TR.SR n r) (hi : i < n) : (List.range (2 * (i + 1) + 1)).map (TR.mkF r) = (List.range (2 * i + 1)).map (TR.mkF r) ++ [TR.mkF r (2 * i + 1), TR.mkF r (2 * i + 2)] := by
  rw [show 2 * (i + 1) + 1 = 2 * i + 1 + 1 + 1 by omega, List.range_succ, List.range_succ, List.map_append, List.map_append]
  simp
theorem ok_marks {f fC : Addr} {fd fdC : FuncData} (T : Bt mg) (F : Fun K "marks" "marks" sMarks f fd)
    (FC : Fun K "check_signed" "check_signed" sCheck fC fdC) (bC : Binds K fdC ["row"] []) (gC : mg "check_signed" = some (.ref fC)) : FnOk P w K mg base CX0 2 f fd ["row"] spMarks := by
  have GC : FnOk P w K mg base CX0 1 fC fdC ["row"] spCheck := ok_check T FC
  refine F.ok scMarks (fun vs H Q E h => ?_) (fun cdv A outer s H vs Q E hr h => ?_)
  · obtain ⟨a, n, r, rfl, _⟩ := h
    rfl
  · obtain ⟨a, n, r, rfl, ha, sr, hn, k⟩ := h
    refine ⟨_, pss_cons (ps_expr (pe_call GC hr (by rfl) gC FC.kp bC .nil pass0 (pa_cons (pv 0) pa_nil)))
      (pss_cons (ps_set (i := 1) scMarks.nd rfl (Or.inl rfl) (pe_lst (pa_cons pe_int pa_nil)))
      (pss_cons (ps_for PassesOwn.never rfl (pi_tup (pv 0)) (pg_name (i := 2) scMarks.nd rfl (Or.inl rfl))
        (pss_one (ps_if (pt_cmpR op_gt (pv 2) pe_int (nomark _))
          (pss_one (ps_expr (pe_bm PySem.F.plainAttrs_list PySem.F.slot_list_extend PySem.F.type_list_extend mt_extend (pv 1) (pa_cons (pe_lst (pa_cons (pe_op op_sub (pe_op op_mul pe_int (pv 2)) pe_int) (pa_cons (pe_op op_mul pe_int (pv 2)) pa_nil))) pa_nil))))
          (pss_one (ps_expr (pe_bm PySem.F.plainAttrs_list PySem.F.slot_list_extend PySem.F.type_list_extend mt_extend (pv 1) (pa_cons (pe_lst (pa_cons (pe_op op_mul (pe_un un_neg pe_int) (pv 2)) (pa_cons (pe_op op_sub (pe_op op_mul (pe_un un_neg pe_int) (pv 2)) pe_int) pa_nil))) pa_nil)))))))
      (pss_cons (ps_expr (pe_bm PySem.F.plainAttrs_list PySem.F.slot_list_append PySem.F.type_list_append mt_append (pv 1) (pa_cons (pe_op op_add (pe_op op_mul pe_int (pe_callB call_len_seq (by rfl) T.len PySem.boot_len (pa_cons (pv 0) pa_nil))) pe_int) pa_nil)))
      (pss_one (ps_ret (pe_callTy call_tuple_of (by rfl) T.tuple (by decide +kernel) (pa_cons (pv 1) pa_nil))))))), ?_⟩
    refine ⟨_, rfl, a, n, r, rfl, ha, sr, hn, fun H1 s1 => ?_⟩
    refine ⟨(by show 1 ≤ sizeLine; decide), fun o no => ?_⟩
    have no0 := s1.free no
    refine ⟨_, rfl, a, rfl, ⟨_, SqT.of ((s1.trans (same_upd no)) _ _ ha)⟩, for_tup (K := K) (a := a) (xs := r.map V.int)
      (fun i σ H' => ∃ v, σ = [some (.ref a), some (.ref o), v] ∧ Same H H' ∧ H' o = some (.lst ((nI ((List.range (2 * i + 1)).map (TR.mkF r))).map V.int)))
      ⟨none, rfl, s1.trans (same_upd no), upd_same⟩ (fun i σ H' _ ⟨v, _, s', _⟩ => SqT.of (s' _ _ ha)) ?_ ?_⟩
    · rintro i x σ H' hi ⟨v, rfl, s', ho⟩
      rw [List.getElem?_map] at hi
      obtain ⟨z, hz, rfl⟩ := Option.map_eq_some_iff.mp hi
      have hl := (List.getElem?_eq_some_iff.mp hz).1
      rw [sr.len] at hl
      have ez : r.getD i 0 = z := TR.getD_at hz
      have bz := sr.bd i hl
      rw [ez] at bz
      have o1 := TR.mkF_od sr.len hl
      have o2 := TR.mkF_ev sr.len hl
      rw [ez] at o1 o2
      have len : ((nI ((List.range (2 * i + 1)).map (TR.mkF r))).map V.int).length = 2 * i + 1 := by unfold nI; rw [List.length_map, List.length_map, List.length_map, List.length_range]
      refine ⟨_, rfl, _, _, rfl, rfl, _, rfl, ?_⟩
      refine ite2 (fun h => ?_) (fun h => ?_)
      · have h : z > 0 := of_decide_eq_true h
        refine ⟨_, rfl, .inl ⟨rfl, _, SqL.of ho⟩, _, rfl, _, _, rfl, rfl, .inl ⟨by decide, by decide⟩, _, _, rfl, rfl, _, rfl, _, _, rfl, rfl, .inl ⟨by decide, by decide⟩, (by show 2 ≤ sizeLine; decide), fun b nb => ?_⟩
        have nob : o ≠ b := ne_of_none ho nb
        refine ⟨o, b, _, _, rfl, rfl, Eq.trans (upd_ne nob) ho, upd_same, Nat.le_of_lt (lt_line (by rw [len]; show 2 * i + 1 + 2 ≤ 100000; omega)), ?_⟩
        refine ⟨_, rfl, fun c u e => ?_, ?_⟩
        · rw [upd_ne (ne_of_none e no0)]
          exact same_upd nb _ _ (s' _ _ e)
        · rw [upd_same, marks_step sr hl, nI_append, List.map_append, o1, o2, if_pos h, if_pos h]
          have e1 : (2 : Int) * z - 1 = ((2 * z.natAbs - 1 : Nat) : Int) := by omega
          have e2 : (2 : Int) * z = ((2 * z.natAbs : Nat) : Int) := by omega
          show some (HO.lst (_ ++ [V.int (2 * z - 1), V.int (2 * z)])) = _
          rw [e1, e2]
          rfl
      · have h : ¬ z > 0 := fun e => h (decide_eq_true e)
        refine ⟨_, rfl, .inl ⟨rfl, _, SqL.of ho⟩, _, rfl, _, rfl, _, _, rfl, rfl, .inl ⟨by decide, by decide⟩, _, rfl, _, rfl, _, _, rfl, rfl, .inl ⟨by decide, by decide⟩, _, _, rfl, rfl, (by show 2 ≤ sizeLine; decide), fun b nb => ?_⟩
        have nob : o ≠ b := ne_of_none ho nb
        refine ⟨o, b, _, _, rfl, rfl, Eq.trans (upd_ne nob) ho, upd_same, Nat.le_of_lt (lt_line (by rw [len]; show 2 * i + 1 + 2 ≤ 100000; omega)), ?_⟩
        refine ⟨_, rfl, fun c u e => ?_, ?_⟩
        · rw [upd_ne (ne_of_none e no0)]
          exact same_upd nb _ _ (s' _ _ e)
        · rw [upd_same, marks_step sr hl, nI_append, List.map_append, o1, o2, if_neg (by omega), if_neg (by omega)]
          have e1 : (-2 : Int) * z - 1 = ((2 * z.natAbs - 1 : Nat) : Int) := by omega
          have e2 : (-2 : Int) * z = ((2 * z.natAbs : Nat) : Int) := by omega
          show some (HO.lst (_ ++ [V.int (-2 * z), V.int (-2 * z - 1)])) = _
          rw [e1, e2]
          rfl
    · rintro σ H' ⟨v, rfl, s', ho⟩
      rw [List.length_map, sr.len] at ho
      have len : ((nI ((List.range (2 * n + 1)).map (TR.mkF r))).map V.int).length = 2 * n + 1 := by unfold nI; rw [List.length_map, List.length_map, List.length_map, List.length_range]
      refine ⟨_, rfl, .inl ⟨rfl, _, SqL.of ho⟩, _, rfl, a, _, rfl, .inr (SqT.of (s' _ _ ha)), _, _, rfl, rfl, .inl ⟨by decide, by decide⟩, _, _, rfl, rfl, o, _, _, rfl, rfl, ho, lt_line (by rw [len]; omega), ?_⟩
      refine ⟨_, rfl, o, _, rfl, .inl ⟨.inl (.inl upd_same), fun p np => ?_⟩⟩
      have nop : o ≠ p := fun e => by
        rw [← e, upd_same] at np
        cases np
      have np0 : H' p = none := by rwa [upd_ne nop.symm] at np
      refine k _ p (fun c u e => ?_) (s'.free np0) ?_
      · rw [upd_ne (ne_of_none (s' _ _ e) np0), upd_ne (ne_of_none e no0)]
        exact s' _ _ e
      · rw [upd_same]
        unfold marksO
        have e0 : List.range (2 * n + 2) = List.range (2 * n + 1) ++ [2 * n + 1] := List.range_succ
        rw [e0, List.map_append, nI_append, List.map_append]
        have e : TR.mkF r (2 * n + 1) = 2 * n + 1 := TR.mkF_top sr.len
        show some (HO.tup (_ ++ [V.int (2 * ((r.map V.int).length : Int) + 1)])) = some (HO.tup (_ ++ [V.int ((TR.mkF r (2 * n + 1) : Nat) : Int)]))
        rw [e, List.length_map, sr.len]
        rfl
end
end TW

/-! W5 -/
namespace TW
open PySem L2
section
variable {P : Program} {w : World} {K : PySem.W.Frag} {mg : Str → Option Value} {base : Heap}
/-! ### light lines -/
/-- a tuple of lines at p: each a new tuple of two spots -/
def LinesAt (n : Nat) (sp : Nat → Nat) (H : Hp) (p : Addr) : Prop := ∃ ts : List Addr, ts.length = n + 1 ∧ H p = some (.tup (ts.map V.ref)) ∧
  ∀ k, k < n + 1 → ∃ t, ts[k]? = some t ∧ H t = some (lineO (TR.loF sp k : Nat) (TR.hiF sp k : Nat))
theorem LinesAt.mono {n : Nat} {sp : Nat → Nat} {H H' : Hp} {p : Addr} (h : LinesAt n sp H p) (s : Same H H') : LinesAt n sp H' p := by
  obtain ⟨ts, h1, h2, h3⟩ := h
  exact ⟨ts, h1, s _ _ h2, fun k hk => by
    obtain ⟨t, t1, t2⟩ := h3 k hk
    exact ⟨t, t1, s _ _ t2⟩⟩
theorem LinesAt.get {n : Nat} {sp : Nat → Nat} {H : Hp} {p : Addr} (h : LinesAt n sp H p) : ∃ xs : List V, H p = some (.tup xs) ∧ xs.length = n + 1 ∧ ∀ k, k < n + 1 → ∃ t, xs[k]? = some (.ref t) ∧ H t = some (lineO (TR.loF sp k : Nat) (TR.hiF sp k : Nat)) := by
  obtain ⟨ts, h1, h2, h3⟩ := h
  refine ⟨_, h2, by rw [List.length_map, h1], fun k hk => ?_⟩
  obtain ⟨t, t1, t2⟩ := h3 k hk
  exact ⟨t, by rw [List.getElem?_map, t1]; rfl, t2⟩
abbrev sLines : Stmt := top 11
theorem scLines : FnScope ["row", "told", "spots", "lines", "k", "one", "two", "spot"] ["row"] (defScope sLines) := ⟨rfl, rfl, rfl, by decide +kernel, rfl, by decide +kernel, by decide +kernel⟩
def spLines : Sp := fun vs H Q _ => ∃ (a : Addr) (n : Nat) (r : List Int) (mk sp : Nat → Nat), vs = [.ref a] ∧ H a = some (rowO r) ∧ TR.Rw n r mk sp ∧ n ≤ 40 ∧
  ∀ H' p, Same H H' → H p = none → LinesAt n sp H' p → Q (.ref p) H'
/-- the dict from marks to spots behind i turns -/
def SpD (n : Nat) (mk : Nat → Nat) (i : Nat) (kvs : List (Key × V)) : Prop := kvs.length ≤ i ∧ ∀ s, s < i → valV kvs (Sum.inl (mk s : Int)) = some (.int (s : Int))
theorem SpD.put {n i : Nat} {mk sp : Nat → Nat} {kvs : List (Key × V)} (D : TR.Dr n mk sp) (hi : i < 2 * n + 2) (h : SpD n mk i kvs) : SpD n mk (i + 1) (putK kvs (Sum.inl (mk i : Int)) (.int (i : Int))) := by
  obtain ⟨h1, h2⟩ := h
  refine ⟨Nat.le_trans (length_putK _ _ _) (by omega), fun s hs => ?_⟩
  rw [valV_put]
  by_cases e : s = i
  · rw [e, if_pos rfl]
  · rw [if_neg fun q => e (D.inj (by omega) hi (by have := Sum.inl.inj q; omega))]
    exact h2 s (by omega)
theorem min_if (a b : Nat) : (if (b : Int) < (a : Int) then (b : Int) else (a : Int)) = ((min a b : Nat) : Int) := by
  split <;> omega
theorem max_if (a b : Nat) : (if (b : Int) > (a : Int) then (b : Int) else (a : Int)) = ((max a b : Nat) : Int) := by
  split <;> omega
theorem ok_lines {f fC fM : Addr} {fd fdC fdM : FuncData} (T : Bt mg) (F : Fun K "light_lines" "light_lines" sLines f fd)
    (FC : Fun K "check_signed" "check_signed" sCheck fC fdC) (bC : Binds K fdC ["row"] []) (gC : mg "check_signed" = some (.ref fC)) (FM : Fun K "marks" "marks" sMarks fM fdM) (bM : Binds K fdM ["row"] []) (gM : mg "marks" = some (.ref fM)) :
    FnOk P w K mg base CX0 3 f fd ["row"] spLines := by
  have GM : FnOk P w K mg base CX0 2 fM fdM ["row"] spMarks := ok_marks T FM FC bC gC
  refine F.ok scLines (fun vs H Q E h => ?_) (fun cdv A outer s H vs Q E hr h => ?_)
  · obtain ⟨a, n, r, mk, sp, rfl, _⟩ := h
    rfl
  · obtain ⟨a, n, r, mk, sp, rfl, ha, R, hn, k⟩ := h
    have sr := R.sr
    have D := R.dr
    have hu := hu_of hr
    refine ⟨_, pss_cons (ps_set (i := 1) scLines.nd rfl (Or.inr rfl) (pe_call GM hr (by rfl) gM FM.kp bM .nil pass0 (pa_cons (pv 0) pa_nil)))
      (pss_cons (setDc (i := 2) (own := [("spot", 7)]) (g := gName 7) (by rfl) scLines.nd rfl rfl (sw_dict rfl rfl rfl (by decide +kernel))
        ⟨pi_range1 rfl T.range (pa_cons (pe_callB call_len_seq (by rfl) T.len PySem.boot_len (pa_cons (pv 1) pa_nil)) pa_nil), blkOk_by (own := [("spot", 7)]) (N := ["row", "told", "spots", "lines", "k", "one", "two", "spot"]) (sc := defScope sLines) (by decide +kernel),
          fun _ _ _ _ _ => pg_name (i := 7) scLines.nd rfl (Or.inl rfl), fun _ _ _ _ _ => pts_nil, fun _ _ _ _ _ => pe_ix (r := rIxT K) ix_tup (pv 1) (pv 7) (fun _ _ => rfl), fun _ _ _ _ _ => pv 7, by intro _; rfl⟩)
      (pss_cons (ps_set (i := 3) scLines.nd rfl (Or.inl rfl) (pe_lst pa_nil))
      (pss_cons (ps_for PassesOwn.never rfl (pi_range1 rfl T.range (pa_cons (pe_op op_add (pe_callB call_len_seq (by rfl) T.len PySem.boot_len (pa_cons (pv 0) pa_nil)) pe_int) pa_nil)) (pg_name (i := 4) scLines.nd rfl (Or.inl rfl))
        (pss_cons (ps_set (i := 5) scLines.nd rfl (Or.inl rfl) (pe_dget hu (pv 2) (pe_op op_mul pe_int (pv 4)) (fun _ _ => rfl)))
        (pss_cons (ps_set (i := 6) scLines.nd rfl (Or.inl rfl) (pe_dget hu (pv 2) (pe_op op_add (pe_op op_mul pe_int (pv 4)) pe_int) (fun _ _ => rfl)))
        (pss_one (ps_expr (pe_bm PySem.F.plainAttrs_list PySem.F.slot_list_append PySem.F.type_list_append mt_append (pv 3) (pa_cons (pe_tup (pa_cons (pe_callB (call_min2 rfl) (by rfl) T.min (by decide +kernel) (pa_cons (pv 5) (pa_cons (pv 6) pa_nil)))
          (pa_cons (pe_callB (call_max2 rfl) (by rfl) T.max (by decide +kernel) (pa_cons (pv 5) (pa_cons (pv 6) pa_nil))) pa_nil))) pa_nil)))))))
      (pss_one (ps_ret (pe_callTy call_tuple_of (by rfl) T.tuple (by decide +kernel) (pa_cons (pv 3) pa_nil))))))), ?_⟩
    refine ⟨_, rfl, a, n, r, rfl, ha, sr, hn, fun H1 m s1 nm hm => ?_⟩
    have lm : ((nI ((List.range (2 * n + 2)).map (TR.mkF r))).map V.int).length = 2 * n + 2 := by unfold nI; rw [List.length_map, List.length_map, List.length_map, List.length_range]
    refine ⟨_, rfl, m, _, rfl, .inr (SqT.of hm), ?_⟩
    rw [lm]
    refine ⟨_, rfl, by omega, by omega, ?_⟩
    rw [show ((2 * n + 2 : Nat) : Int).toNat = 2 * n + 2 from Int.toNat_natCast _]
    intro d hd
    have sd : ∀ o, Same H1 (upd H1 d o) := fun o => same_upd hd
    refine dc_rng (fun i H' => ∃ kvs, H' = upd H1 d (.dK kvs) ∧ SpD n mk i kvs) ⟨[], rfl, Nat.zero_le _, fun s hs => absurd hs (Nat.not_lt_zero s)⟩ ?_ ?_
    · rintro i H' hi ⟨kvs, rfl, hP⟩
      refine ⟨rfl, iteT (B := True) ?_⟩
      have at_ : ((nI ((List.range (2 * n + 2)).map (TR.mkF r))).map V.int)[i]? = some (.int (mk i : Int)) := by
        unfold nI
        rw [List.getElem?_map, List.getElem?_map, List.getElem?_map, List.getElem?_range hi, R.eq i hi]
        rfl
      refine ⟨_, rfl, _, rfl, m, _, _, _, rfl, rfl, SqT.of (sd _ _ _ hm), atI_nat at_, ?_⟩
      refine ⟨_, rfl, kvs, Sum.inl (mk i : Int), rfl, upd_same, lt_line (by have := hP.1; omega), ?_⟩
      exact ⟨_, upd_upd, hP.put D hi⟩
    · rintro H' ⟨kvs, rfl, hP⟩
      show tSeq _ _ _ _ _
      refine ⟨Nat.zero_le _, fun o no => ?_⟩
      have no1 : H1 o = none := (sd _).free no
      have no0 : H o = none := s1.free no1
      have nod : d ≠ o := fun e => by
        rw [← e, upd_same] at no
        cases no
      have so : ∀ u, Same (upd H1 d (.dK kvs)) (upd (upd H1 d (.dK kvs)) o u) := fun u => same_upd no
      refine ⟨_, rfl, a, _, rfl, .inr (SqT.of (((s1.trans (sd _)).trans (so _)) _ _ ha)), _, _, rfl, rfl, ?_⟩
      rw [List.length_map, sr.len]
      refine ⟨_, rfl, by omega, by omega, ?_⟩
      rw [show ((n : Int) + 1).toNat = n + 1 by omega]
      have val : ∀ m, m < 2 * n + 2 → valV kvs (Sum.inl (m : Int)) = some (.int (sp m : Int)) := fun m hm => by
        have := hP.2 (sp m) (D.sp_lt m hm)
        rwa [D.mk_sp m hm] at this
      refine for_range (lo := 0) (n := n + 1) (fun i σ H' => ∃ (v4 v5 v6 : Option V) (ts : List Addr), σ = [some (.ref a), some (.ref m), some (.ref d), some (.ref o), v4, v5, v6, none] ∧ Same (upd H1 d (.dK kvs)) H' ∧ H' o = some (.lst (ts.map V.ref)) ∧ ts.length = i ∧
          ∀ k, k < i → ∃ t, ts[k]? = some t ∧ H' t = some (lineO (TR.loF sp k : Nat) (TR.hiF sp k : Nat)))
        ⟨none, none, none, [], rfl, so _, upd_same, rfl, fun k hk => absurd hk (Nat.not_lt_zero k)⟩ ?_ ?_
      · rintro i σ H' hi ⟨v4, v5, v6, ts, rfl, s', ho, hlen, hts⟩
        have e0 : (0 : Int) + (i : Int) = (i : Int) := by omega
        have hd' : H' d = some (.dK kvs) := s' _ _ upd_same
        refine ⟨_, rfl, _, rfl, _, _, rfl, rfl, .inl ⟨by decide, by decide⟩, d, .int (sp (2 * i) : Int), rfl, ?_, ?_⟩
        · refine .inl ⟨kvs, Sum.inl ((2 * i : Nat) : Int), .inl hd', ?_, (val (2 * i) (by omega)).symm⟩
          show V.int (2 * (0 + (i : Int))) = V.int ((2 * i : Nat) : Int)
          rw [show 2 * (0 + (i : Int)) = ((2 * i : Nat) : Int) by omega]
        refine ⟨_, rfl, _, rfl, _, _, rfl, rfl, .inl ⟨by decide, by decide⟩, _, _, rfl, rfl, d, .int (sp (2 * i + 1) : Int), rfl, ?_, ?_⟩
        · refine .inl ⟨kvs, Sum.inl ((2 * i + 1 : Nat) : Int), .inl hd', ?_, (val (2 * i + 1) (by omega)).symm⟩
          show V.int (2 * (0 + (i : Int)) + 1) = V.int ((2 * i + 1 : Nat) : Int)
          rw [show 2 * (0 + (i : Int)) + 1 = ((2 * i + 1 : Nat) : Int) by omega]
        refine ⟨_, rfl, .inl ⟨rfl, _, SqL.of ho⟩, _, rfl, _, rfl, _, _, rfl, _, rfl, _, rfl, _, _, rfl, (by show 2 ≤ sizeLine; decide), fun t nt => ?_⟩
        have nto : o ≠ t := ne_of_none ho nt
        refine ⟨o, _, _, rfl, rfl, Eq.trans (upd_ne nto) ho, lt_line (by rw [List.length_map]; omega), ?_⟩
        have s2 : Same (upd H1 d (.dK kvs)) (upd (upd H' t (.tup [.int (if ((sp (2 * i + 1) : Nat) : Int) < ((sp (2 * i) : Nat) : Int) then ((sp (2 * i + 1) : Nat) : Int) else ((sp (2 * i) : Nat) : Int)), .int (if ((sp (2 * i + 1) : Nat) : Int) > ((sp (2 * i) : Nat) : Int) then ((sp (2 * i + 1) : Nat) : Int) else ((sp (2 * i) : Nat) : Int))])) o (.lst (ts.map V.ref ++ [V.ref t]))) := fun c u e => by
          rw [upd_ne (ne_of_none e no)]
          exact same_upd nt _ _ (s' _ _ e)
        refine ⟨_, _, _, ts ++ [t], rfl, s2, ?_, by rw [List.length_append, hlen]; rfl, fun k hk => ?_⟩
        · rw [upd_same, List.map_append]
          rfl
        · by_cases e : k = i
          · refine ⟨t, by rw [e, ← hlen, List.getElem?_append_right (Nat.le_refl _), Nat.sub_self]; rfl, ?_⟩
            rw [upd_ne nto.symm, upd_same, min_if, max_if, e]
            rfl
          · obtain ⟨t', t1, t2⟩ := hts k (by omega)
            refine ⟨t', by rw [List.getElem?_append_left (by omega)]; exact t1, ?_⟩
            have n1 : t' ≠ o := ne_of t2 ho (by intro z; cases z)
            rw [upd_ne n1]
            exact same_upd nt _ _ t2
      · rintro σ H' ⟨v4, v5, v6, ts, rfl, s', ho, hlen, hts⟩
        refine ⟨_, rfl, o, _, rfl, .inl ⟨.inl (.inl ho), fun p np => ?_⟩⟩
        have sp' := same_upd (o := .tup (ts.map V.ref)) np
        have sA : Same H H' := (s1.trans (sd _)).trans s'
        exact k _ p (sA.trans sp') (sA.free np) ⟨ts, hlen, upd_same, fun k hk => by
          obtain ⟨t, t1, t2⟩ := hts k hk
          exact ⟨t, t1, sp' _ _ t2⟩⟩
end
end TW

/-! W6 -/
namespace TW
open PySem L2
section
variable {P : Program} {w : World} {K : PySem.W.Frag} {mg : Str → Option Value} {base : Heap}
abbrev kI (s : Nat) : Key := Sum.inl (s : Int)
theorem kI_ne {s t : Nat} (h : s ≠ t) : kI s ≠ kI t := fun e => h (by have := Sum.inl.inj e; omega)
/-! ### the partners along light lines -/
def PtD (n : Nat) (mk sp : Nat → Nat) (i : Nat) (kvs : List (Key × V)) : Prop := kvs.length = 2 * i ∧ ∀ s, s < 2 * n + 2 → valV kvs (kI s) = if mk s / 2 < i then some (.int (TR.lp mk sp s : Int)) else none
theorem put_len {kvs : List (Key × V)} {k : Key} {v : V} (h : valV kvs k = none) : (putK kvs k v).length = kvs.length + 1 := by
  rw [putK_new v h, List.length_append]
  rfl
theorem PtD.put {n i : Nat} {mk sp : Nat → Nat} {kvs : List (Key × V)} (D : TR.Dr n mk sp) (hi : i < n + 1) (h : PtD n mk sp i kvs) :
    PtD n mk sp (i + 1) (putK (putK kvs (kI (TR.loF sp i)) (.int (TR.hiF sp i : Int))) (kI (TR.hiF sp i)) (.int (TR.loF sp i : Int))) := by
  obtain ⟨h1, h2⟩ := h
  have b := TR.lo_lt D hi
  have lh := TR.lohi D hi
  have inv := D.ivl.inv _ (TR.cl_lt D hi)
  have ml : mk (TR.cl sp i) = 2 * i := D.mk_sp _ (by omega)
  have mh : mk (TR.lp mk sp (TR.cl sp i)) = 2 * i + 1 := by rw [TR.lp_cl D hi, D.mk_sp _ (by omega)]
  have elp : TR.lp mk sp (TR.loF sp i) = TR.hiF sp i ∧ TR.lp mk sp (TR.hiF sp i) = TR.loF sp i ∧ mk (TR.loF sp i) / 2 = i ∧ mk (TR.hiF sp i) / 2 = i := by
    rcases lh with g | g
    · rw [g.1, g.2, inv, ml, mh]
      omega
    · rw [g.1, g.2, inv, ml, mh]
      omega
  obtain ⟨q1, q2, q3, q4⟩ := elp
  have n1 : valV kvs (kI (TR.loF sp i)) = none := by rw [h2 _ (by omega), if_neg (by omega)]
  have n2 : valV (putK kvs (kI (TR.loF sp i)) (.int (TR.hiF sp i : Int))) (kI (TR.hiF sp i)) = none := by rw [valV_put, if_neg (kI_ne (by omega)), h2 _ (by omega), if_neg (by omega)]
  refine ⟨by rw [put_len n2, put_len n1, h1]; omega, fun s hs => ?_⟩
  rw [valV_put, valV_put, h2 s hs]
  by_cases e1 : s = TR.hiF sp i
  · rw [e1, if_pos rfl, q2, if_pos (by omega)]
  · rw [if_neg (kI_ne e1)]
    by_cases e2 : s = TR.loF sp i
    · rw [e2, if_pos rfl, q1, if_pos (by omega)]
    · rw [if_neg (kI_ne e2)]
      have : mk s / 2 ≠ i := fun e => by
        have hm := D.mk_lt s hs
        have : s = sp (2 * i) ∨ s = sp (2 * i + 1) := by
          rcases Nat.mod_two_eq_zero_or_one (mk s) with p | p
          · exact .inl (by rw [show 2 * i = mk s by omega, D.sp_mk s hs])
          · exact .inr (by rw [show 2 * i + 1 = mk s by omega, D.sp_mk s hs])
        unfold TR.hiF at e1
        unfold TR.loF at e2
        omega
      by_cases lt : mk s / 2 < i
      · rw [if_pos lt, if_pos (by omega)]
      · rw [if_neg lt, if_neg (by omega)]
abbrev sPart : Stmt := top 13
theorem scPart : FnScope ["row", "partners", "p", "q"] ["row"] (defScope sPart) := ⟨rfl, rfl, rfl, by decide +kernel, rfl, by decide +kernel, by decide +kernel⟩
def spPart : Sp := fun vs H Q _ => ∃ (a : Addr) (n : Nat) (r : List Int) (mk sp : Nat → Nat), vs = [.ref a] ∧ H a = some (rowO r) ∧ TR.Rw n r mk sp ∧ n ≤ 40 ∧
  ∀ H' p kvs, Same H H' → H p = none → H' p = some (.dK kvs) → PtD n mk sp (n + 1) kvs → Q (.ref p) H'
theorem ok_part {f fL : Addr} {fd fdL : FuncData} (F : Fun K "light_partners" "light_partners" sPart f fd) (GL : FnOk P w K mg base CX0 3 fL fdL ["row"] spLines) (kL : PySem.W.keepIn K (.ref fL) = true) (bL : Binds K fdL ["row"] []) (gL : mg "light_lines" = some (.ref fL)) :
    FnOk P w K mg base CX0 4 f fd ["row"] spPart := by
  refine F.ok scPart (fun vs H Q E h => ?_) (fun cdv A outer s H vs Q E hr h => ?_)
  · obtain ⟨a, n, r, mk, sp, rfl, _⟩ := h
    rfl
  · obtain ⟨a, n, r, mk, sp, rfl, ha, R, hn, k⟩ := h
    have D := R.dr
    have hu := hu_of hr
    refine ⟨_, pss_cons (ps_set (i := 1) scPart.nd rfl (Or.inl rfl) (pe_dnewK))
      (pss_cons (ps_for PassesOwn.never rfl (pi_tup (pe_call GL hr (by rfl) gL kL bL .nil pass0 (pa_cons (pv 0) pa_nil))) (pg_tup rfl (pgs_cons (pg_name (i := 2) scPart.nd rfl (Or.inl rfl)) (pgs_cons (pg_name (i := 3) scPart.nd rfl (Or.inl rfl)) pgs_nil)))
        (pss_cons (ps_dput hu (pv 1) (pv 2) (pv 3) rfl) (pss_one (ps_dput hu (pv 1) (pv 3) (pv 2) rfl))))
      (pss_one (ps_ret (pv 1)))), ?_⟩
    intro d hd
    have sd : ∀ o, Same H (upd H d o) := fun o => same_upd hd
    refine ⟨_, rfl, a, n, r, mk, sp, rfl, sd _ _ _ ha, R, hn, fun H1 p s1 np hp => ?_⟩
    obtain ⟨ts, lt, hts, hl⟩ := hp
    refine ⟨p, rfl, ⟨_, SqT.of hts⟩, for_tup (K := K) (a := p) (xs := ts.map V.ref) (fun i σ H' => ∃ (v2 v3 : Option V) (kvs : List (Key × V)), σ = [some (.ref a), some (.ref d), v2, v3] ∧ H' = upd H1 d (.dK kvs) ∧ PtD n mk sp i kvs)
      ⟨none, none, [], rfl, ?_, rfl, fun s _ => rfl⟩ ?_ ?_ ?_⟩
    · refine (funext fun c => ?_)
      by_cases e : c = d
      · rw [e, upd_same]
        exact s1 _ _ upd_same
      · rw [upd_ne e]
    · rintro i σ H' hi ⟨v2, v3, kvs, rfl, rfl, hP⟩
      refine SqT.of ?_
      rw [upd_ne (ne_of hts (s1 _ _ upd_same) (by intro z; cases z))]
      exact hts
    · rintro i x σ H' hi ⟨v2, v3, kvs, rfl, rfl, hP⟩
      rw [List.getElem?_map] at hi
      obtain ⟨t, ht, rfl⟩ := Option.map_eq_some_iff.mp hi
      have hl' := (List.getElem?_eq_some_iff.mp ht).1
      rw [lt] at hl'
      obtain ⟨t', t1, t2⟩ := hl i hl'
      have et : t' = t := Option.some.inj (t1.symm.trans ht)
      subst et
      have ntd : t' ≠ d := ne_of t2 (s1 _ _ upd_same) (by intro z; cases z)
      refine ⟨t', _, rfl, SqT.of (Eq.trans (upd_ne ntd) t2), rfl, _, _, rfl, _, _, rfl, rfl, ?_⟩
      refine ⟨_, rfl, _, rfl, _, rfl, d, _, rfl, DPut.k (k := kI (TR.loF sp i)) upd_same (lt_line (by have := hP.1; omega)), ?_⟩
      refine ⟨_, rfl, _, rfl, _, rfl, d, _, rfl, DPut.k (k := kI (TR.hiF sp i)) upd_same (Nat.lt_of_le_of_lt (length_putK _ _ _) (lt_line (by have := hP.1; omega))), ?_⟩
      rw [upd_upd, upd_upd]
      exact ⟨_, _, _, rfl, rfl, hP.put D hl'⟩
    · rintro σ H' ⟨v2, v3, kvs, rfl, rfl, hP⟩
      rw [List.length_map, lt] at hP
      refine ⟨_, rfl, k _ d kvs (fun c u e => ?_) hd upd_same hP⟩
      rw [upd_ne (ne_of_none e hd)]
      exact s1 _ _ (sd _ _ _ e)
/-! ### the rings -/
open Classical in
noncomputable def seenN (N : Nat) (kvs : List (Key × V)) : Nat := ((List.range N).filter fun s => decide ((valV kvs (kI s)).isSome = true)).length
open Classical in
theorem seenN_put {N s : Nat} {kvs : List (Key × V)} {v : V} (hs : s < N) (h : valV kvs (kI s) = none) : seenN N (putK kvs (kI s) v) = seenN N kvs + 1 := by
  unfold seenN
  rw [← List.length_cons (a := s)]
  refine TR.len_eq (List.nodup_range.filter _) (List.nodup_cons.mpr ⟨fun q => ?_, List.nodup_range.filter _⟩) fun x => ?_
  · have := (List.mem_filter.mp q).2
    rw [decide_eq_true_iff, h] at this
    cases this
  · rw [List.mem_cons, List.mem_filter, List.mem_filter, decide_eq_true_iff, decide_eq_true_iff, valV_put, List.mem_range]
    by_cases e : x = s
    · rw [e, if_pos rfl]
      exact ⟨fun _ => .inl rfl, fun _ => ⟨hs, rfl⟩⟩
    · rw [if_neg (kI_ne e)]
      exact ⟨fun q => .inr q, fun q => q.resolve_left e⟩
theorem seenN_le (N : Nat) (kvs : List (Key × V)) : seenN N kvs ≤ N := by
  unfold seenN
  refine Nat.le_trans (List.length_filter_le _ _) ?_
  rw [List.length_range]
  exact Nat.le_refl _
def inD (kvs : List (Key × V)) (s : Nat) : Prop := (valV kvs (kI s)).isSome = true
theorem inD_put {kvs : List (Key × V)} {t : Nat} {v : V} (s : Nat) : inD (putK kvs (kI t) v) s ↔ inD kvs s ∨ s = t := by
  unfold inD
  rw [valV_put]
  by_cases e : s = t
  · rw [e, if_pos rfl]
    exact ⟨fun _ => .inr rfl, fun _ => rfl⟩
  · rw [if_neg (kI_ne e)]
    exact ⟨fun q => .inl q, fun q => q.resolve_right e⟩
open Classical in
noncomputable def repN (mk sp : Nat → Nat) (i : Nat) : Nat := ((List.range i).filter fun s => decide (∀ t, t < s → ¬ TR.R1 mk sp t s)).length
theorem repN_all (n : Nat) (mk sp : Nat → Nat) : repN mk sp (2 * n + 2) = TR.ncl (2 * n + 2) (TR.R1 mk sp) := rfl
open Classical in
theorem repN_yes {mk sp : Nat → Nat} {i : Nat} (h : ¬ TR.Seen mk sp i i) : repN mk sp (i + 1) = repN mk sp i + 1 := by
  unfold repN
  have e : decide (∀ t, t < i → ¬ TR.R1 mk sp t i) = true := decide_eq_true fun t ht q => h ⟨t, ht, q⟩
  rw [List.range_succ, List.filter_append, List.length_append, List.filter_cons_of_pos (p := fun s => decide (∀ t, t < s → ¬ TR.R1 mk sp t s)) e]
  rfl
open Classical in
theorem repN_no {mk sp : Nat → Nat} {i : Nat} (h : TR.Seen mk sp i i) : repN mk sp (i + 1) = repN mk sp i := by
  unfold repN
  have e : ¬ decide (∀ t, t < i → ¬ TR.R1 mk sp t i) = true := fun q => by
    obtain ⟨t, ht, r⟩ := h
    exact of_decide_eq_true q t ht r
  rw [List.range_succ, List.filter_append, List.length_append, List.filter_cons_of_neg (p := fun s => decide (∀ t, t < s → ¬ TR.R1 mk sp t s)) e]
  rfl
theorem repN_le {mk sp : Nat → Nat} (i : Nat) : repN mk sp i ≤ i := by
  unfold repN
  refine Nat.le_trans (List.length_filter_le _ _) ?_
  rw [List.length_range]
  exact Nat.le_refl _
abbrev sRings : Stmt := top 14
theorem scRings : FnScope ["row", "partners", "found", "seen", "start", "ring", "spot", "other"] ["row"] (defScope sRings) := ⟨rfl, rfl, rfl, by decide +kernel, rfl, by decide +kernel, by decide +kernel⟩
def spRings : Sp := fun vs H Q _ => ∃ (a : Addr) (n : Nat) (r : List Int) (mk sp : Nat → Nat), vs = [.ref a] ∧ H a = some (rowO r) ∧ TR.Rw n r mk sp ∧ n ≤ 40 ∧
  ∀ H' p xs, Same H H' → H p = none → H' p = some (.tup xs) → xs.length = TR.ncl (2 * n + 2) (TR.R1 mk sp) → Q (.ref p) H'
/-- what stands while the rings are walked -/
structure RgAt (H H' : Hp) (pd fo sd : Addr) (pk kvs : List (Key × V)) (ys : List V) : Prop where
  same : Same H H'
  ePd : H' pd = some (.dK pk)
  eFo : H' fo = some (.lst ys)
  eSd : H' sd = some (.dK kvs)
  ePs : pd ≠ sd
  eNf : H fo = none
  eNs : H sd = none
theorem RgAt.new {H H' : Hp} {pd fo sd : Addr} {pk kvs : List (Key × V)} {ys : List V} (h : RgAt H H' pd fo sd pk kvs ys) {p : Addr} {o : HO} (np : H' p = none) : RgAt H (upd H' p o) pd fo sd pk kvs ys where
  same := h.same.trans (same_upd np)
  ePd := same_upd np _ _ h.ePd
  eFo := same_upd np _ _ h.eFo
  eSd := same_upd np _ _ h.eSd
  ePs := h.ePs
  eNf := h.eNf
  eNs := h.eNs
theorem RgAt.ofSame {H H' H'' : Hp} {pd fo sd : Addr} {pk kvs : List (Key × V)} {ys : List V} (h : RgAt H H' pd fo sd pk kvs ys) (s : Same H' H'') : RgAt H H'' pd fo sd pk kvs ys where
  same := h.same.trans s
  ePd := s _ _ h.ePd
  eFo := s _ _ h.eFo
  eSd := s _ _ h.eSd
  ePs := h.ePs
  eNf := h.eNf
  eNs := h.eNs
theorem RgAt.seen {H H' : Hp} {pd fo sd : Addr} {pk kvs kvs' : List (Key × V)} {ys : List V} (h : RgAt H H' pd fo sd pk kvs ys) : RgAt H (upd H' sd (.dK kvs')) pd fo sd pk kvs' ys where
  same := fun c u e => by
    rw [upd_ne (ne_of_none e h.eNs)]
    exact h.same _ _ e
  ePd := by rw [upd_ne h.ePs]; exact h.ePd
  eFo := by rw [upd_ne (ne_of h.eFo h.eSd (by intro z; cases z))]; exact h.eFo
  eSd := upd_same
  ePs := h.ePs
  eNf := h.eNf
  eNs := h.eNs
theorem RgAt.add {H H' : Hp} {pd fo sd : Addr} {pk kvs : List (Key × V)} {ys ys' : List V} (h : RgAt H H' pd fo sd pk kvs ys) : RgAt H (upd H' fo (.lst ys')) pd fo sd pk kvs ys' where
  same := fun c u e => by
    rw [upd_ne (ne_of_none e h.eNf)]
    exact h.same _ _ e
  ePd := by rw [upd_ne (ne_of h.ePd h.eFo (by intro z; cases z))]; exact h.ePd
  eFo := upd_same
  eSd := by rw [upd_ne (ne_of h.eSd h.eFo (by intro z; cases z))]; exact h.eSd
  ePs := h.ePs
  eNf := h.eNf
  eNs := h.eNs
theorem RgAt.other {H H' : Hp} {pd fo sd rg : Addr} {pk kvs : List (Key × V)} {ys : List V} {o : HO} (h : RgAt H H' pd fo sd pk kvs ys) (n0 : H rg = none) (n1 : rg ≠ pd) (n2 : rg ≠ fo) (n3 : rg ≠ sd) : RgAt H (upd H' rg o) pd fo sd pk kvs ys where
  same := fun c u e => by
    rw [upd_ne (ne_of_none e n0)]
    exact h.same _ _ e
  ePd := by rw [upd_ne n1.symm]; exact h.ePd
  eFo := by rw [upd_ne n2.symm]; exact h.eFo
  eSd := by rw [upd_ne n3.symm]; exact h.eSd
  ePs := h.ePs
  eNf := h.eNf
  eNs := h.eNs
theorem ok_rings {f fP fK : Addr} {fd fdP fdK : FuncData} (T : Bt mg) (F : Fun K "drawing_rings" "drawing_rings" sRings f fd) (GP : FnOk P w K mg base CX0 4 fP fdP ["row"] spPart) (kP : PySem.W.keepIn K (.ref fP) = true) (bP : Binds K fdP ["row"] []) (gP : mg "light_partners" = some (.ref fP))
    (GK : FnOk P w K mg base CX0 1 fK fdK ["spot"] spDark) (kK : PySem.W.keepIn K (.ref fK) = true) (bK : Binds K fdK ["spot"] []) (gK : mg "dark_partner" = some (.ref fK)) : FnOk P w K mg base CX0 5 f fd ["row"] spRings := by
  refine F.ok scRings (fun vs H Q E h => ?_) (fun cdv A outer s H vs Q E hr h => ?_)
  · obtain ⟨a, n, r, mk, sp, rfl, _⟩ := h
    rfl
  · obtain ⟨a, n, r, mk, sp, rfl, ha, R, hn, k⟩ := h
    have D := R.dr
    have hu := hu_of hr
    have hr1 : Room 1 _ := hr.mono (by decide)
    refine ⟨_, pss_cons (ps_set (i := 1) scRings.nd rfl (Or.inl rfl) (pe_call GP hr (by rfl) gP kP bP .nil pass0 (pa_cons (pv 0) pa_nil)))
      (pss_cons (ps_set (i := 2) scRings.nd rfl (Or.inl rfl) (pe_lst pa_nil))
      (pss_cons (ps_set (i := 3) scRings.nd rfl (Or.inl rfl) pe_dnewK)
      (pss_cons (ps_for PassesOwn.never rfl (pi_range1 rfl T.range (pa_cons (pe_callB call_lenD (by rfl) T.len PySem.boot_len (pa_cons (pv 1) pa_nil)) pa_nil)) (pg_name (i := 4) scRings.nd rfl (Or.inl rfl))
        (pss_cons (ps_set (i := 5) scRings.nd rfl (Or.inl rfl) (pe_lst pa_nil))
        (pss_cons (ps_set (i := 6) scRings.nd rfl (Or.inl rfl) (pv 4))
        (pss_cons (ps_while PassesOwn.never (pt_cmp (pc_dnotin hu (pv 6) (pv 3)))
          (pss_cons (ps_set (i := 7) scRings.nd rfl (Or.inl rfl) (pe_call GK hr1 (by rfl) gK kK bK .nil pass0 (pa_cons (pv 6) pa_nil)))
          (pss_cons (ps_dput hu (pv 3) (pv 6) pe_bl rfl)
          (pss_cons (ps_dput hu (pv 3) (pv 7) pe_bl rfl)
          (pss_cons (ps_expr (pe_bm PySem.F.plainAttrs_list PySem.F.slot_list_extend PySem.F.type_list_extend mt_extend (pv 5) (pa_cons (pe_lst (pa_cons (pv 6) (pa_cons (pv 7) pa_nil))) pa_nil)))
          (pss_one (ps_set (i := 6) scRings.nd rfl (Or.inl rfl) (pe_dget hu (pv 1) (pv 7) (fun _ _ => rfl)))))))))
        (pss_one (ps_if (pt_cmpR (op_neD (hu64 hr)) (pv 5) (pe_lst pa_nil) (nomark _))
          (pss_one (ps_expr (pe_bm PySem.F.plainAttrs_list PySem.F.slot_list_append PySem.F.type_list_append mt_append (pv 2) (pa_cons (pe_callTy call_tuple_of (by rfl) T.tuple (by decide +kernel) (pa_cons (pv 5) pa_nil)) pa_nil)))) pss_nil))))))
      (pss_one (ps_ret (pe_callTy call_tuple_of (by rfl) T.tuple (by decide +kernel) (pa_cons (pv 2) pa_nil))))))), ?_⟩
    refine ⟨_, rfl, a, n, r, mk, sp, rfl, ha, R, hn, fun H1 pd pk s1 npd hpd hPt => ?_⟩
    refine ⟨Nat.zero_le _, fun fo nfo => ?_⟩
    intro sd nsd
    have nfo0 := s1.free nfo
    have nsd1 : H1 sd = none := (same_upd nfo).free nsd
    have nsd0 := s1.free nsd1
    have nps : pd ≠ sd := ne_of_none hpd nsd1
    have nfs : fo ≠ sd := fun e => by
      rw [← e, upd_same] at nsd
      cases nsd
    have A0 : RgAt H (upd (upd H1 fo (.lst [])) sd (.dK [])) pd fo sd pk [] [] := ⟨(s1.trans (same_upd nfo)).trans (same_upd nsd), same_upd nsd _ _ (same_upd nfo _ _ hpd), same_upd nsd _ _ upd_same, upd_same, nps, nfo0, nsd0⟩
    refine ⟨_, rfl, pd, pk, rfl, A0.ePd, ?_⟩
    have lpk : pk.length = 2 * n + 2 := by rw [hPt.1]; omega
    rw [lpk]
    refine ⟨_, rfl, by omega, by omega, ?_⟩
    rw [show ((2 * n + 2 : Nat) : Int).toNat = 2 * n + 2 from Int.toNat_natCast _]
    refine for_range (lo := 0) (n := 2 * n + 2) (fun i σ H' => ∃ (v4 v5 v6 v7 : Option V) (kvs : List (Key × V)) (ys : List V), σ = [some (.ref a), some (.ref pd), some (.ref fo), some (.ref sd), v4, v5, v6, v7] ∧ RgAt H H' pd fo sd pk kvs ys ∧
        ys.length = repN mk sp i ∧ kvs.length ≤ seenN (2 * n + 2) kvs ∧ ∀ s, s < 2 * n + 2 → (inD kvs s ↔ TR.Seen mk sp i s))
      ⟨none, none, none, none, [], [], rfl, A0, rfl, Nat.zero_le _, fun s _ => ⟨fun q => (by cases q), fun ⟨t, ht, _⟩ => absurd ht (Nat.not_lt_zero t)⟩⟩ ?_ ?_
    · rintro i σ H' hi ⟨v4, v5, v6, v7, kvs, ys, rfl, A1, hys, hle, hS⟩
      have e0 : (0 : Int) + (i : Int) = (i : Int) := by omega
      rw [e0]
      -- ring = []; spot = start
      refine ⟨Nat.zero_le _, fun rg nrg => ?_⟩
      refine ⟨_, rfl, ?_⟩
      have nrg0 := A1.same.free nrg
      have g1 : rg ≠ pd := fun e => by rw [e, A1.ePd] at nrg; cases nrg
      have g2 : rg ≠ fo := fun e => by rw [e, A1.eFo] at nrg; cases nrg
      have g3 : rg ≠ sd := fun e => by rw [e, A1.eSd] at nrg; cases nrg
      refine ⟨fun m σ H2 => ∃ (v7 : Option V) (kvs : List (Key × V)) (rs : List Nat) (spot : Nat), σ = [some (.ref a), some (.ref pd), some (.ref fo), some (.ref sd), some (.int (i : Int)), some (.ref rg), some (.int (spot : Int)), v7] ∧ RgAt H H2 pd fo sd pk kvs ys ∧
          H2 rg = some (.lst ((nI rs).map V.int)) ∧ kvs.length ≤ seenN (2 * n + 2) kvs ∧ rs.length ≤ seenN (2 * n + 2) kvs ∧ TR.Ring n mk sp i (inD kvs) spot ∧ m = 2 * n + 2 - seenN (2 * n + 2) kvs ∧
          ((rs = [] ∧ spot = i ∧ (inD kvs i → TR.Seen mk sp i i)) ∨ (rs ≠ [] ∧ ¬ TR.Seen mk sp i i)),
        ⟨_, v7, kvs, [], i, rfl, A1.new nrg, upd_same, hle, Nat.zero_le _, TR.Ring.start hS, rfl, .inl ⟨rfl, rfl, fun q => (hS i hi).mp q⟩⟩, ?_⟩
      rintro m σ H2 ⟨v7, kvs, rs, spot, rfl, A2, hrg, hl1, hl2, hR, rfl, hc⟩
      have hb := hR.bd D hi
      have cnt := seenN_le (2 * n + 2) kvs
      refine ⟨_, rfl, _, rfl, sd, _, rfl, DGet.k (k := kI spot) A2.eSd, _, rfl, ?_⟩
      by_cases hin : inD kvs spot
      · have e : (!(valV kvs (kI spot)).isSome) = false := by rw [show (valV kvs (kI spot)).isSome = true from hin]; rfl
        rw [e]
        refine iteF ?_
        have fin := hR.finish D hi hin
        -- if ring != []
        refine ⟨_, rfl, Nat.zero_le _, fun em nem => ?_⟩
        have A3 := A2.new (o := .lst []) nem
        refine ⟨_, _, .lst (.inl (.inl (same_upd nem _ _ hrg))) (dp_ints K _ _), .lst (.inl (.inl upd_same)) (dp_ints K _ ([] : List Int)), ints_shL _, ints_shL _, ?_⟩
        rw [eqvL]
        refine ⟨_, rfl, ?_⟩
        rcases hc with ⟨c1, c2, c3⟩ | ⟨c1, c2⟩
        · subst c1
          refine iteF ?_
          exact ⟨_, _, _, _, kvs, ys, rfl, A3, by rw [hys, repN_no (c3 (c2 ▸ hin))], hl1, fin⟩
        · have e2 : decide (nI rs = []) = false := decide_eq_false fun q => c1 (nI_inj (m := []) q)
          rw [e2]
          refine iteT (B := True) ?_
          refine ⟨_, rfl, .inl ⟨rfl, _, SqL.of A3.eFo⟩, _, rfl, rg, _, rfl, .inl ⟨.inl (.inl (same_upd nem _ _ hrg)), fun t nt => ?_⟩⟩
          have A4 := A3.new (o := .tup ((nI rs).map V.int)) nt
          refine ⟨fo, _, _, rfl, rfl, A4.eFo, lt_line (by rw [hys]; have := repN_le (mk := mk) (sp := sp) i; omega), ?_⟩
          exact ⟨_, _, _, _, kvs, ys ++ [.ref t], rfl, A4.add, by rw [List.length_append, hys, repN_yes c2]; rfl, hl1, fin⟩
      · have e : (!(valV kvs (kI spot)).isSome) = true := by
          cases q : (valV kvs (kI spot)).isSome with
          | true => exact absurd q hin
          | false => rfl
        rw [e]
        refine iteT (B := True) ?_
        have ns1 : valV kvs (kI spot) = none := by
          cases q : valV kvs (kI spot) with
          | none => rfl
          | some x => exact absurd (show inD kvs spot by unfold inD; rw [q]; rfl) hin
        have hdk := TR.dk_lt (n := n) hb
        have nd : ¬ inD kvs (TR.dk spot) := fun q => hin (by have := hR.d _ hdk q; rwa [TR.dk_dk] at this)
        have ns2 : valV (putK kvs (kI spot) (.bl true)) (kI (TR.dk spot)) = none := by
          rw [valV_put, if_neg (kI_ne (TR.dk_ne spot))]
          cases q : valV kvs (kI (TR.dk spot)) with
          | none => rfl
          | some x => exact absurd (show inD kvs (TR.dk spot) by unfold inD; rw [q]; rfl) nd
        have m1 := seenN_put (v := .bl true) hb ns1
        have m2 := seenN_put (v := .bl true) hdk ns2
        have cnt2 := seenN_le (2 * n + 2) (putK (putK kvs (kI spot) (.bl true)) (kI (TR.dk spot)) (.bl true))
        have l1 := put_len (v := .bl true) ns1
        have l2 := put_len (v := .bl true) ns2
        have hR' := hR.step (S' := inD (putK (putK kvs (kI spot) (.bl true)) (kI (TR.dk spot)) (.bl true))) D hi hin fun s => by
          rw [inD_put, inD_put, or_assoc]
        refine ⟨fun σ H3 => ∃ (v7 : Option V) (rs' : List Nat), σ = [some (.ref a), some (.ref pd), some (.ref fo), some (.ref sd), some (.int (i : Int)), some (.ref rg), some (.int (TR.lp mk sp (TR.dk spot) : Int)), v7] ∧
            RgAt H H3 pd fo sd pk (putK (putK kvs (kI spot) (.bl true)) (kI (TR.dk spot)) (.bl true)) ys ∧ H3 rg = some (.lst ((nI rs').map V.int)) ∧ rs'.length = rs.length + 2, ?_, ?_⟩
        · rintro σ H3 ⟨v7, rs', rfl, A3, hrg3, hl3⟩
          refine ⟨_, ?_, v7, _, rs', _, rfl, A3, hrg3, by omega, by omega, hR', rfl, .inr ⟨fun z => ?_, ?_⟩⟩
          · omega
          · rw [z] at hl3
            have : ([] : List Nat).length = 0 := rfl
            omega
          · rcases hc with ⟨c1, c2, c3⟩ | ⟨c1, c2⟩
            · exact fun q => hin (c2 ▸ hR.old i hi q)
            · exact c2
        · -- the body
          refine ⟨_, rfl, spot, rfl, ?_⟩
          refine ⟨_, rfl, _, rfl, sd, _, rfl, DPut.k (k := kI spot) A2.eSd (lt_line (by omega)), ?_⟩
          have A3 := A2.seen (kvs' := putK kvs (kI spot) (.bl true))
          refine ⟨_, rfl, _, rfl, sd, _, rfl, DPut.k (k := kI (TR.dk spot)) A3.eSd (lt_line (by omega)), ?_⟩
          have A4 := A3.seen (kvs' := putK (putK kvs (kI spot) (.bl true)) (kI (TR.dk spot)) (.bl true))
          have hrg4 : (upd (upd H2 sd (.dK (putK kvs (kI spot) (.bl true)))) sd (.dK (putK (putK kvs (kI spot) (.bl true)) (kI (TR.dk spot)) (.bl true)))) rg = some (.lst ((nI rs).map V.int)) := by
            rw [upd_ne g3, upd_ne g3]
            exact hrg
          refine ⟨_, rfl, .inl ⟨rfl, _, SqL.of hrg4⟩, _, rfl, _, rfl, (by show 2 ≤ sizeLine; decide), fun b nb => ?_⟩
          have A5 := A4.new (o := .lst [.int (spot : Int), .int (TR.dk spot : Int)]) nb
          have nbg : rg ≠ b := ne_of_none hrg4 nb
          refine ⟨rg, b, _, _, rfl, rfl, Eq.trans (upd_ne nbg) hrg4, upd_same, Nat.le_of_lt (lt_line (by unfold nI; rw [List.length_map, List.length_map]; show rs.length + 2 ≤ 100000; omega)), ?_⟩
          have A6 := A5.other (o := .lst ((nI rs).map V.int ++ [.int (spot : Int), .int (TR.dk spot : Int)])) nrg0 g1 g2 g3
          refine ⟨_, rfl, _, rfl, pd, .int (TR.lp mk sp (TR.dk spot) : Int), rfl, .inl ⟨pk, kI (TR.dk spot), .inl A6.ePd, rfl, ?_⟩, ?_⟩
          · have := hPt.2 _ hdk
            have hm := D.mk_lt _ hdk
            rw [if_pos (by omega)] at this
            exact this.symm
          · refine ⟨_, rs ++ [spot, TR.dk spot], rfl, A6, ?_, by rw [List.length_append]; rfl⟩
            rw [upd_same, nI_append, List.map_append]
            rfl
    · rintro σ H' ⟨v4, v5, v6, v7, kvs, ys, rfl, A1, hys, hle, hS⟩
      refine ⟨_, rfl, fo, _, rfl, .inl ⟨.inl (.inl A1.eFo), fun p np => ?_⟩⟩
      exact k _ p ys (A1.same.trans (same_upd np)) (A1.same.free np) upd_same (by rw [hys, repN_all])
end
end TW

/-! W7 -/
namespace TW
open PySem L2
section
variable {P : Program} {w : World} {K : PySem.W.Frag} {mg : Str → Option Value} {base : Heap}
noncomputable def partO (n : Nat) (mk sp : Nat → Nat) (k : Nat) : HO := .tup ((nI (TR.partL n mk sp k)).map V.int)
abbrev sConn : Stmt := top 19
theorem scConn : FnScope ["lines", "start", "found", "at", "k"] ["lines", "start"] (defScope sConn) := ⟨rfl, rfl, rfl, by decide +kernel, rfl, by decide +kernel, by decide +kernel⟩
def spConn : Sp := fun vs H Q _ => ∃ (l : Addr) (n : Nat) (mk sp : Nat → Nat) (st : Nat), vs = [.ref l, .int (st : Int)] ∧ LinesAt n sp H l ∧ TR.Dr n mk sp ∧ n ≤ 40 ∧ st < n + 1 ∧
  ∀ H' p, Same H H' → H p = none → H' p = some (partO n mk sp st) → Q (.ref p) H'
/-- the lines found so far, the first c of them with all that they cross -/
structure Bfs (n : Nat) (mk sp : Nat → Nat) (st c : Nat) (fs : List Nat) : Prop where
  nd : fs.Nodup
  has : st ∈ fs
  all : ∀ j, j ∈ fs → j < n + 1 ∧ TR.CC n mk sp st j
  le : c ≤ fs.length
  cl : ∀ i j, i < c → fs[i]? = some j → ∀ l, l < n + 1 → TR.Cr (TR.lp mk sp) (TR.cl sp j) (TR.cl sp l) → l ∈ fs
theorem Bfs.len {n st c : Nat} {mk sp : Nat → Nat} {fs : List Nat} (h : Bfs n mk sp st c fs) : fs.length ≤ n + 1 := by
  have := TR.sub_len fs (List.range (n + 1)) h.nd fun x hx => List.mem_range.mpr (h.all x hx).1
  rwa [List.length_range] at this
/-- within a turn: the crossings of the line at place c with the lines below m are done, too -/
structure Bfs2 (n : Nat) (mk sp : Nat → Nat) (st c m j : Nat) (fs : List Nat) : Prop extends Bfs n mk sp st c fs where
  at_ : fs[c]? = some j
  part : ∀ l, l < m → TR.Cr (TR.lp mk sp) (TR.cl sp j) (TR.cl sp l) → l ∈ fs
theorem Bfs2.skip {n st c m j : Nat} {mk sp : Nat → Nat} {fs : List Nat} (h : Bfs2 n mk sp st c m j fs) (q : m ∈ fs ∨ ¬ TR.Cr (TR.lp mk sp) (TR.cl sp j) (TR.cl sp m)) : Bfs2 n mk sp st c (m + 1) j fs := by
  refine { h with part := fun l hl hc => ?_ }
  by_cases e : l = m
  · subst e
    exact q.resolve_right fun r => r hc
  · exact h.part l (by omega) hc
theorem Bfs2.add {n st c m j : Nat} {mk sp : Nat → Nat} {fs : List Nat} (h : Bfs2 n mk sp st c m j fs) (hm : m < n + 1) (hn : m ∉ fs) (hc : TR.Cr (TR.lp mk sp) (TR.cl sp j) (TR.cl sp m)) (D : TR.Dr n mk sp) : Bfs2 n mk sp st c (m + 1) j (fs ++ [m]) where
  nd := List.nodup_append.mpr ⟨h.nd, List.nodup_cons.mpr ⟨List.not_mem_nil, List.nodup_nil⟩, fun a ha b hb e => hn (by rw [← List.mem_singleton.mp hb, ← e]; exact ha)⟩
  has := List.mem_append_left _ h.has
  all := fun x hx => by
    rcases List.mem_append.mp hx with q | q
    · exact h.all x q
    · rw [List.mem_singleton.mp q]
      have hj := h.all j (List.mem_of_getElem? h.at_)
      exact ⟨hm, hj.2.cr (TR.cl_lt D hm) hc⟩
  le := Nat.le_trans h.le (by rw [List.length_append]; omega)
  cl := fun i x hi hx l hl hc => by
    have hlt : i < fs.length := Nat.lt_of_lt_of_le hi h.le
    rw [List.getElem?_append_left hlt] at hx
    exact List.mem_append_left _ (h.cl i x hi hx l hl hc)
  at_ := by
    have hlt := (List.getElem?_eq_some_iff.mp h.at_).1
    rw [List.getElem?_append_left hlt]
    exact h.at_
  part := fun l hl hc => by
    by_cases e : l = m
    · exact List.mem_append_right _ (List.mem_singleton.mpr e)
    · exact List.mem_append_left _ (h.part l (by omega) hc)
theorem Bfs2.next {n st c j : Nat} {mk sp : Nat → Nat} {fs : List Nat} (h : Bfs2 n mk sp st c (n + 1) j fs) : Bfs n mk sp st (c + 1) fs where
  nd := h.nd
  has := h.has
  all := h.all
  le := (List.getElem?_eq_some_iff.mp h.at_).1
  cl := fun i x hi hx l hl hc => by
    by_cases e : i = c
    · subst e
      have : x = j := Option.some.inj (hx.symm.trans h.at_)
      subst this
      exact h.part l hl hc
    · exact h.cl i x (by omega) hx l hl hc
theorem Bfs.done {n st : Nat} {mk sp : Nat → Nat} {fs : List Nat} (D : TR.Dr n mk sp) (h : Bfs n mk sp st fs.length fs) : fs.Perm (TR.partL n mk sp st) := by
  refine (List.perm_ext_iff_of_nodup h.nd (TR.nd_partL st)).mpr fun x => ?_
  rw [TR.mem_partL]
  refine TR.bfs_closed D (h.all st h.has).1 (fun l => l ∈ fs) h.has h.all (fun j l hj hl hc => ?_) x
  obtain ⟨i, hi⟩ := List.mem_iff_getElem?.mp hj
  exact h.cl i j (List.getElem?_eq_some_iff.mp hi).1 hi l hl hc
theorem inV_nI (fs : List Nat) (m : Nat) : inV (.int (m : Int)) ((nI fs).map V.int) = decide (m ∈ fs) := by
  unfold inV nI
  induction fs with
  | nil => simp
  | cons x r ih =>
    rw [List.map_cons, List.map_cons, List.any_cons, ih]
    have e : eqV (V.int (x : Int)) (V.int (m : Int)) = decide (m = x) := by
      show ((x : Int) == (m : Int)) = decide (m = x)
      by_cases q : m = x
      · rw [q]
        simp
      · rw [decide_eq_false q]
        exact beq_eq_false_iff_ne.mpr (by omega)
    rw [e]
    by_cases q : m = x <;> by_cases p : m ∈ r <;> simp [q, p]
theorem flat_nI (fs : List Nat) : ((nI fs).map V.int).all flatV = true := by
  rw [List.all_eq_true]
  intro x hx
  obtain ⟨z, _, rfl⟩ := List.mem_map.mp hx
  rfl
theorem nI_at {fs : List Nat} {i j : Nat} (h : fs[i]? = some j) : ((nI fs).map V.int)[i]? = some (.int (j : Int)) := by
  unfold nI
  rw [List.getElem?_map, List.getElem?_map, h]
  rfl
theorem nI_len (fs : List Nat) : ((nI fs).map V.int).length = fs.length := by
  unfold nI
  rw [List.length_map, List.length_map]
theorem ok_conn {f fX : Addr} {fd fdX : FuncData} (T : Bt mg) (F : Fun K "connected_with" "connected_with" sConn f fd) (GX : FnOk P w K mg base CX0 1 fX fdX ["line", "other"] spCross) (kX : PySem.W.keepIn K (.ref fX) = true) (bX : Binds K fdX ["line", "other"] []) (gX : mg "crosses" = some (.ref fX)) :
    FnOk P w K mg base CX0 2 f fd ["lines", "start"] spConn := by
  refine F.ok scConn (fun vs H Q E h => ?_) (fun cdv A outer s H vs Q E hr h => ?_)
  · obtain ⟨l, n, mk, sp, st, rfl, _⟩ := h
    rfl
  · obtain ⟨l, n, mk, sp, st, rfl, hL, D, hn, hst, k⟩ := h
    refine ⟨_, pss_cons (ps_set (i := 2) scConn.nd rfl (Or.inl rfl) (pe_lst (pa_cons (pv 1) pa_nil)))
      (pss_cons (ps_set (i := 3) scConn.nd rfl (Or.inl rfl) pe_int)
      (pss_cons (ps_while PassesOwn.never (pt_cmpR op_lt (pv 3) (pe_callB call_len_seq (by rfl) T.len PySem.boot_len (pa_cons (pv 2) pa_nil)) (nomark _))
        (pss_cons (ps_for PassesOwn.never rfl (pi_range1 rfl T.range (pa_cons (pe_callB call_len_seq (by rfl) T.len PySem.boot_len (pa_cons (pv 0) pa_nil)) pa_nil)) (pg_name (i := 4) scConn.nd rfl (Or.inl rfl))
          (pss_one (ps_if (PW.pt (pw_and (pt_cmpR op_notIn_seq (pv 4) (pv 2) (by rfl)) (pw_and1 (pt_val (pe_call GX hr (by rfl) gX kX bX .nil pass0
              (pa_cons (pe_ix ix_tup (pv 0) (pe_ix ix_list (pv 2) (pv 3) (fun _ _ => rfl)) (fun _ _ => rfl)) (pa_cons (pe_ix ix_tup (pv 0) (pv 4) (fun _ _ => rfl)) pa_nil)))))))
            (pss_one (ps_expr (pe_bm PySem.F.plainAttrs_list PySem.F.slot_list_append PySem.F.type_list_append mt_append (pv 2) (pa_cons (pv 4) pa_nil)))) pss_nil)))
        (pss_one (ps_aug (i := 3) scConn.nd rfl (Or.inl rfl) pe_int ip_add))))
      (pss_one (ps_ret (pe_callTy call_tuple_of (by rfl) T.tuple (by decide +kernel) (pa_cons (pe_callB cr_sortedI (by rfl) T.sorted (by decide +kernel) (pa_cons (pv 2) pa_nil)) pa_nil)))))), ?_⟩
    refine ⟨_, rfl, (by show 1 ≤ sizeLine; decide), fun fo nfo => ?_⟩
    have s1 : Same H (upd H fo (.lst [.int (st : Int)])) := same_upd nfo
    refine ⟨fun m σ H' => ∃ (c : Nat) (fs : List Nat) (v4 : Option V), σ = [some (.ref l), some (.int (st : Int)), some (.ref fo), some (.int (c : Int)), v4] ∧ Same H H' ∧ H' fo = some (.lst ((nI fs).map V.int)) ∧ Bfs n mk sp st c fs ∧ m = n + 1 - c,
      ⟨_, 0, [st], none, rfl, s1, upd_same, ⟨List.nodup_cons.mpr ⟨List.not_mem_nil, List.nodup_nil⟩, List.mem_cons_self, fun j hj => by rw [List.mem_singleton.mp hj]; exact ⟨hst, .refl⟩, Nat.zero_le _, fun i j hi => absurd hi (Nat.not_lt_zero i)⟩, rfl⟩, ?_⟩
    rintro m σ H1 ⟨c, fs, v4, rfl, sm, hfo, hB, rfl⟩
    refine ⟨_, rfl, _, rfl, fo, _, rfl, .inl (.inl (.inl hfo)), _, _, rfl, rfl, _, rfl, ?_⟩
    refine ite2 (fun h => ?_) (fun h => ?_)
    · have h : (c : Int) < (((nI fs).map V.int).length : Int) := of_decide_eq_true h
      rw [nI_len] at h
      have hc : c < fs.length := by omega
      have hlen := hB.len
      obtain ⟨j, hj⟩ : ∃ j, fs[c]? = some j := ⟨_, List.getElem?_eq_getElem hc⟩
      refine ⟨fun σ H' => ∃ (fs : List Nat) (v4 : Option V), σ = [some (.ref l), some (.int (st : Int)), some (.ref fo), some (.int ((c : Int) + 1)), v4] ∧ Same H H' ∧ H' fo = some (.lst ((nI fs).map V.int)) ∧ Bfs n mk sp st (c + 1) fs, ?_, ?_⟩
      · rintro σ H' ⟨fs, v4, rfl, sm, hfo, hB⟩
        exact ⟨n + 1 - (c + 1), by omega, c + 1, fs, v4, by rw [show ((c + 1 : Nat) : Int) = (c : Int) + 1 by omega], sm, hfo, hB, rfl⟩
      · obtain ⟨xs, hx, lx, hxs⟩ := (hL.mono sm).get
        refine ⟨_, rfl, l, _, rfl, .inr (SqT.of hx), ?_⟩
        rw [lx]
        refine ⟨_, rfl, by omega, by omega, ?_⟩
        rw [show ((n + 1 : Nat) : Int).toNat = n + 1 from Int.toNat_natCast _]
        refine for_range (lo := 0) (n := n + 1) (fun i σ H' => ∃ (fs : List Nat) (v4 : Option V), σ = [some (.ref l), some (.int (st : Int)), some (.ref fo), some (.int (c : Int)), v4] ∧ Same H H' ∧ H' fo = some (.lst ((nI fs).map V.int)) ∧ Bfs2 n mk sp st c i j fs)
          ⟨fs, v4, rfl, sm, hfo, { hB with at_ := hj, part := fun l hl => absurd hl (Nat.not_lt_zero l) }⟩ ?_ ?_
        · rintro i σ H2 hi ⟨fs, v4, rfl, sm, hfo, hB⟩
          have e0 : (0 : Int) + (i : Int) = (i : Int) := by omega
          rw [e0]
          refine ⟨_, rfl, _, rfl, fo, _, rfl, .inl (.inl (.inl hfo)), rfl, flat_nI fs, _, rfl, ?_⟩
          show if (!inV (V.int (i : Int)) ((nI fs).map V.int)) = true then _ else _
          rw [inV_nI]
          by_cases hin : i ∈ fs
          · rw [decide_eq_true hin]
            refine iteF ?_
            refine iteF ?_
            exact ⟨fs, _, rfl, sm, hfo, hB.skip (.inl hin)⟩
          · rw [decide_eq_false hin]
            refine iteT (B := True) ?_
            obtain ⟨xs, hx, lx, hxs⟩ := (hL.mono sm).get
            have hjn := (hB.all j (List.mem_of_getElem? hB.at_)).1
            obtain ⟨t1, a1, a2⟩ := hxs j hjn
            obtain ⟨t2, b1, b2⟩ := hxs i hi
            refine ⟨_, rfl, _, rfl, _, rfl, fo, _, _, _, rfl, rfl, .inl (.inl hfo), atI_nat (nI_at hB.at_), l, _, _, _, rfl, rfl, SqT.of hx, atI_nat a1, _, rfl, _, rfl, l, _, _, _, rfl, rfl, SqT.of hx, atI_nat b1, ?_⟩
            refine ⟨t1, t2, _, _, _, _, rfl, a2, b2, fun H3 s3 => ⟨_, rfl, ?_⟩⟩
            refine ite2 (fun h => ?_) (fun h => ?_)
            · have hcr := (TR.xB_iff D hjn hi).mp h
              have hl3 := hB.len
              refine ⟨_, rfl, .inl ⟨rfl, _, SqL.of (s3 _ _ hfo)⟩, _, rfl, fo, _, _, rfl, rfl, s3 _ _ hfo, lt_line (by rw [nI_len]; omega), ?_⟩
              refine ⟨fs ++ [i], _, rfl, fun x u e => ?_, ?_, hB.add hi hin hcr D⟩
              · rw [upd_ne (ne_of_none e nfo)]
                exact s3 _ _ (sm _ _ e)
              · rw [upd_same, nI_append, List.map_append]
                rfl
            · exact ⟨fs, _, rfl, sm.trans s3, s3 _ _ hfo, hB.skip (.inr fun q => h ((TR.xB_iff D hjn hi).mpr q))⟩
        · rintro σ H2 ⟨fs, v4, rfl, sm, hfo, hB⟩
          refine ⟨_, rfl, _, _, rfl, rfl, ?_⟩
          exact ⟨fs, v4, rfl, sm, hfo, hB.next⟩
    · have h : ¬ (c : Int) < (((nI fs).map V.int).length : Int) := fun e => h (decide_eq_true e)
      rw [nI_len] at h
      have hc : c = fs.length := by have := hB.le; omega
      subst hc
      have pm := hB.done D
      refine ⟨_, rfl, fo, nI fs, rfl, .inl (.inl hfo), fun ns q hp hs nq => ?_⟩
      have ens : ns = nI (TR.partL n mk sp st) := by
        refine sorted_uniq (hp.trans (pm.map _)) hs ?_
        unfold nI
        rw [List.pairwise_map]
        exact (TR.asc_partL st).imp fun {a b} h => by omega
      subst ens
      refine ⟨q, _, rfl, .inl ⟨.inl (.inl upd_same), fun p np => ?_⟩⟩
      have sA := sm.trans (same_upd (o := .lst ((nI (TR.partL n mk sp st)).map V.int)) nq)
      exact k _ p (sA.trans (same_upd np)) (sA.free np) upd_same
end
end TW

/-! W8 -/
namespace TW
open PySem L2
section
variable {P : Program} {w : World} {K : PySem.W.Frag} {mg : Str → Option Value} {base : Heap}
/-- a list of parts, each by a line of it and its address -/
def PtsOk (n : Nat) (mk sp : Nat → Nat) (H : Hp) (L : List (Nat × Addr)) : Prop := ∀ x, x ∈ L → H x.2 = some (partO n mk sp x.1)
def refsL (L : List (Nat × Addr)) : List V := L.map fun x => V.ref x.2
theorem PtsOk.mono {n : Nat} {mk sp : Nat → Nat} {H H' : Hp} {L : List (Nat × Addr)} (h : PtsOk n mk sp H L) (s : Same H H') : PtsOk n mk sp H' L := fun x hx => s _ _ (h x hx)
theorem refsL_append (L M : List (Nat × Addr)) : refsL (L ++ M) = refsL L ++ refsL M := List.map_append
theorem refsL_len (L : List (Nat × Addr)) : (refsL L).length = L.length := List.length_map _
theorem refsL_at {L : List (Nat × Addr)} {i : Nat} {x : V} (h : (refsL L)[i]? = some x) : ∃ y, L[i]? = some y ∧ x = .ref y.2 := by
  unfold refsL at h
  rw [List.getElem?_map] at h
  obtain ⟨y, h1, h2⟩ := Option.map_eq_some_iff.mp h
  exact ⟨y, h1, h2.symm⟩
/-! ### parts_of -/
def SeenP (n : Nat) (mk sp : Nat → Nat) (k l : Nat) : Prop := ∃ t, t < k ∧ TR.CC n mk sp t l
theorem repL_take (n : Nat) (mk sp : Nat → Nat) : ((List.range (n + 1)).filter fun k => @decide (TR.Rep n mk sp k) (Classical.propDecidable _)) = TR.repL n mk sp := rfl
open Classical in
noncomputable def repsTo (n : Nat) (mk sp : Nat → Nat) (i : Nat) : List Nat := (List.range i).filter fun k => decide (TR.Rep n mk sp k)
open Classical in
theorem repsTo_succ {n : Nat} {mk sp : Nat → Nat} {i : Nat} : repsTo n mk sp (i + 1) = repsTo n mk sp i ++ (if TR.Rep n mk sp i then [i] else []) := by
  unfold repsTo
  rw [List.range_succ, List.filter_append]
  by_cases h : TR.Rep n mk sp i
  · rw [if_pos h, List.filter_cons_of_pos (p := fun k => decide (TR.Rep n mk sp k)) (decide_eq_true h)]
    rfl
  · rw [if_neg h, List.filter_cons_of_neg (p := fun k => decide (TR.Rep n mk sp k)) (fun q => h (of_decide_eq_true q))]
    rfl
abbrev sPts : Stmt := top 20
theorem scPts : FnScope ["lines", "found", "seen", "k", "part", "number"] ["lines"] (defScope sPts) := ⟨rfl, rfl, rfl, by decide +kernel, rfl, by decide +kernel, by decide +kernel⟩
def spPts : Sp := fun vs H Q _ => ∃ (l : Addr) (n : Nat) (mk sp : Nat → Nat), vs = [.ref l] ∧ LinesAt n sp H l ∧ TR.Dr n mk sp ∧ n ≤ 40 ∧
  ∀ H' p L, Same H H' → H p = none → H' p = some (.tup (refsL L)) → PtsOk n mk sp H' L → L.map (·.1) = TR.repL n mk sp → Q (.ref p) H'
theorem ok_pts {f fC : Addr} {fd fdC : FuncData} (T : Bt mg) (F : Fun K "parts_of" "parts_of" sPts f fd) (GC : FnOk P w K mg base CX0 2 fC fdC ["lines", "start"] spConn) (kC : PySem.W.keepIn K (.ref fC) = true) (bC : Binds K fdC ["lines", "start"] []) (gC : mg "connected_with" = some (.ref fC)) :
    FnOk P w K mg base CX0 3 f fd ["lines"] spPts := by
  refine F.ok scPts (fun vs H Q E h => ?_) (fun cdv A outer s H vs Q E hr h => ?_)
  · obtain ⟨l, n, mk, sp, rfl, _⟩ := h
    rfl
  · obtain ⟨l, n, mk, sp, rfl, hL, D, hn, k⟩ := h
    have hu := hu_of hr
    refine ⟨_, pss_cons (ps_set (i := 1) scPts.nd rfl (Or.inl rfl) (pe_lst pa_nil))
      (pss_cons (ps_set (i := 2) scPts.nd rfl (Or.inl rfl) pe_dnewK)
      (pss_cons (ps_for PassesOwn.never rfl (pi_range1 rfl T.range (pa_cons (pe_callB call_len_seq (by rfl) T.len PySem.boot_len (pa_cons (pv 0) pa_nil)) pa_nil)) (pg_name (i := 3) scPts.nd rfl (Or.inl rfl))
        (pss_one (ps_if (pt_cmp (pc_dnotin hu (pv 3) (pv 2)))
          (pss_cons (ps_set (i := 4) scPts.nd rfl (Or.inl rfl) (pe_call GC hr (by rfl) gC kC bC .nil pass0 (pa_cons (pv 0) (pa_cons (pv 3) pa_nil))))
          (pss_cons (ps_for PassesOwn.never rfl (pi_tup (pv 4)) (pg_name (i := 5) scPts.nd rfl (Or.inl rfl)) (pss_one (ps_dput hu (pv 2) (pv 5) pe_bl rfl)))
          (pss_one (ps_expr (pe_bm PySem.F.plainAttrs_list PySem.F.slot_list_append PySem.F.type_list_append mt_append (pv 1) (pa_cons (pv 4) pa_nil)))))) pss_nil)))
      (pss_one (ps_ret (pe_callTy call_tuple_of (by rfl) T.tuple (by decide +kernel) (pa_cons (pv 1) pa_nil)))))), ?_⟩
    refine ⟨Nat.zero_le _, fun fo nfo => ?_⟩
    intro sd nsd
    have nsd0 := (same_upd nfo).free nsd
    have nfs : fo ≠ sd := fun e => by
      rw [← e, upd_same] at nsd
      cases nsd
    have s1 : Same H (upd (upd H fo (.lst [])) sd (.dK [])) := (same_upd nfo).trans (same_upd nsd)
    obtain ⟨xs, hx, lx, hxs⟩ := (hL.mono s1).get
    refine ⟨_, rfl, l, _, rfl, .inr (SqT.of hx), ?_⟩
    rw [lx]
    refine ⟨_, rfl, by omega, by omega, ?_⟩
    rw [show ((n + 1 : Nat) : Int).toNat = n + 1 from Int.toNat_natCast _]
    refine for_range (lo := 0) (n := n + 1) (fun i σ H' => ∃ (v3 v4 v5 : Option V) (L : List (Nat × Addr)) (kvs : List (Key × V)), σ = [some (.ref l), some (.ref fo), some (.ref sd), v3, v4, v5] ∧ Same H H' ∧ H' fo = some (.lst (refsL L)) ∧ H' sd = some (.dK kvs) ∧
        PtsOk n mk sp H' L ∧ L.map (·.1) = repsTo n mk sp i ∧ kvs.length ≤ 41 * i ∧ ∀ x, x < n + 1 → (inD kvs x ↔ SeenP n mk sp i x))
      ⟨none, none, none, [], [], rfl, s1, same_upd nsd _ _ upd_same, upd_same, fun x hx => absurd hx List.not_mem_nil, rfl, Nat.zero_le _, fun x _ => ⟨fun q => (by cases q), fun ⟨t, ht, _⟩ => absurd ht (Nat.not_lt_zero t)⟩⟩ ?_ ?_
    · rintro i σ H' hi ⟨v3, v4, v5, L, kvs, rfl, sm, hfo, hsd, hP, hLr, hlen, hS⟩
      have e0 : (0 : Int) + (i : Int) = (i : Int) := by omega
      rw [e0]
      have lL : L.length ≤ i := by
        have e := congrArg List.length hLr
        rw [List.length_map] at e
        have q : (repsTo n mk sp i).length ≤ i := by
          unfold repsTo
          refine Nat.le_trans (List.length_filter_le _ _) ?_
          rw [List.length_range]
          exact Nat.le_refl _
        omega
      refine ⟨_, rfl, _, rfl, sd, _, rfl, DGet.k (k := kI i) hsd, _, rfl, ?_⟩
      by_cases hin : inD kvs i
      · have e : (!(valV kvs (kI i)).isSome) = false := by rw [show (valV kvs (kI i)).isSome = true from hin]; rfl
        rw [e]
        refine iteF ?_
        obtain ⟨t, ht, hc⟩ := (hS i hi).mp hin
        refine ⟨_, _, _, L, kvs, rfl, sm, hfo, hsd, hP, ?_, by omega, fun x hx => ?_⟩
        · rw [repsTo_succ, if_neg (fun q => q.2 t ht hc), List.append_nil]
          exact hLr
        · rw [hS x hx]
          constructor
          · rintro ⟨t, a, b⟩
            exact ⟨t, by omega, b⟩
          · rintro ⟨u, a, b⟩
            by_cases eu : u = i
            · exact ⟨t, ht, hc.trans (eu ▸ b)⟩
            · exact ⟨u, by omega, b⟩
      · have e : (!(valV kvs (kI i)).isSome) = true := by
          cases q : (valV kvs (kI i)).isSome with
          | true => exact absurd q hin
          | false => rfl
        rw [e]
        refine iteT (B := True) ?_
        have rep : TR.Rep n mk sp i := ⟨hi, fun j hj hc => hin ((hS i hi).mpr ⟨j, hj, hc⟩)⟩
        refine ⟨_, rfl, _, rfl, l, n, mk, sp, i, rfl, hL.mono sm, D, hn, hi, fun H2 p s2 np hp => ?_⟩
        have nfp : fo ≠ p := ne_of_none hfo np
        have nsp : sd ≠ p := ne_of_none hsd np
        have lp := TR.partL_len (n := n) (mk := mk) (sp := sp) i
        refine ⟨_, rfl, p, rfl, ⟨_, SqT.of hp⟩, for_tup (K := K) (a := p) (xs := (nI (TR.partL n mk sp i)).map V.int) (fun j σ H3 => ∃ (v5 : Option V) (kvs' : List (Key × V)), σ = [some (.ref l), some (.ref fo), some (.ref sd), some (.int (i : Int)), some (.ref p), v5] ∧
            H3 = upd H2 sd (.dK kvs') ∧ kvs'.length ≤ 41 * i + j ∧ ∀ x, inD kvs' x ↔ inD kvs x ∨ x ∈ (TR.partL n mk sp i).take j)
          ⟨v5, kvs, rfl, ?_, by omega, fun x => ⟨fun q => .inl q, fun q => q.resolve_right List.not_mem_nil⟩⟩ ?_ ?_ ?_⟩
        · refine (funext fun c => ?_)
          by_cases e : c = sd
          · rw [e, upd_same]
            exact s2 _ _ hsd
          · rw [upd_ne e]
        · rintro j σ H3 hj ⟨v5, kvs', rfl, rfl, _⟩
          exact SqT.of (by rw [upd_ne nsp.symm]; exact hp)
        · rintro j x σ H3 hj ⟨v5, kvs', rfl, rfl, hk1, hk2⟩
          have jl := (List.getElem?_eq_some_iff.mp hj).1
          rw [nI_len] at jl
          obtain ⟨y, hy⟩ : ∃ y, (TR.partL n mk sp i)[j]? = some y := ⟨_, List.getElem?_eq_getElem jl⟩
          have ex : x = .int (y : Int) := Option.some.inj (hj.symm.trans (nI_at hy))
          subst ex
          refine ⟨_, rfl, _, rfl, sd, _, rfl, DPut.k (k := kI y) upd_same (lt_line (by omega)), ?_⟩
          refine ⟨_, _, rfl, upd_upd, Nat.le_trans (length_putK _ _ _) (by omega), fun z => ?_⟩
          rw [inD_put, hk2, List.take_add_one, hy, List.mem_append]
          show (_ ∨ _) ∨ _ ↔ _ ∨ _ ∨ z ∈ [y]
          rw [List.mem_singleton, or_assoc]
        · rintro σ H3 ⟨v5, kvs', rfl, rfl, hk1, hk2⟩
          rw [nI_len] at hk1 hk2
          have hfo3 : (upd H2 sd (.dK kvs')) fo = some (.lst (refsL L)) := by
            rw [upd_ne nfs]
            exact s2 _ _ hfo
          refine ⟨_, rfl, .inl ⟨rfl, _, SqL.of hfo3⟩, _, rfl, fo, _, _, rfl, rfl, hfo3, lt_line (by rw [refsL_len]; omega), ?_⟩
          have nps : p ≠ sd := nsp.symm
          refine ⟨_, _, _, L ++ [(i, p)], kvs', rfl, fun c u e => ?_, ?_, ?_, fun x hx => ?_, ?_, by omega, fun x hx => ?_⟩
          · rw [upd_ne (ne_of_none e nfo), upd_ne (ne_of_none e nsd0)]
            exact s2 _ _ (sm _ _ e)
          · rw [upd_same, refsL_append]
            rfl
          · rw [upd_ne nfs.symm, upd_same]
          · rcases List.mem_append.mp hx with q | q
            · have hq := hP x q
              rw [upd_ne (ne_of hq hfo (by intro z; cases z)), upd_ne (ne_of hq hsd (by intro z; cases z))]
              exact s2 _ _ hq
            · rw [List.mem_singleton.mp q, upd_ne nfp.symm, upd_ne nps]
              exact hp
          · rw [List.map_append, hLr, repsTo_succ, if_pos rep]
            rfl
          · rw [hk2, List.take_length, hS x hx, TR.mem_partL]
            constructor
            · rintro (⟨t, a, b⟩ | ⟨a, b⟩)
              · exact ⟨t, by omega, b⟩
              · exact ⟨i, by omega, b⟩
            · rintro ⟨t, a, b⟩
              by_cases eu : t = i
              · exact .inr ⟨hx, eu ▸ b⟩
              · exact .inl ⟨t, by omega, b⟩
    · rintro σ H' ⟨v3, v4, v5, L, kvs, rfl, sm, hfo, hsd, hP, hLr, hlen, hS⟩
      refine ⟨_, rfl, fo, _, rfl, .inl ⟨.inl (.inl hfo), fun p np => ?_⟩⟩
      exact k _ p L (sm.trans (same_upd np)) (sm.free np) upd_same (hP.mono (same_upd np)) hLr
/-! ### is_bad -/
open Classical in
noncomputable def badB (n : Nat) (mk sp : Nat → Nat) (k : Nat) : Bool := decide (TR.Bad n mk sp (TR.cl sp k))
open Classical in
theorem badB_yes {n : Nat} {mk sp : Nat → Nat} {k : Nat} (h : TR.Bad n mk sp (TR.cl sp k)) : badB n mk sp k = true := decide_eq_true h
open Classical in
theorem badB_no {n : Nat} {mk sp : Nat → Nat} {k : Nat} (h : ¬ TR.Bad n mk sp (TR.cl sp k)) : badB n mk sp k = false := decide_eq_false h
open Classical in
theorem badB_iff {n : Nat} {mk sp : Nat → Nat} {k : Nat} : badB n mk sp k = true ↔ TR.Bad n mk sp (TR.cl sp k) := decide_eq_true_iff
abbrev sBad : Stmt := top 21
theorem scBad : FnScope ["lines", "part", "k"] ["lines", "part"] (defScope sBad) := ⟨rfl, rfl, rfl, by decide +kernel, rfl, by decide +kernel, by decide +kernel⟩
def spBad : Sp := fun vs H Q _ => ∃ (l t : Addr) (n : Nat) (mk sp : Nat → Nat) (k : Nat), vs = [.ref l, .ref t] ∧ LinesAt n sp H l ∧ TR.Dr n mk sp ∧ n ≤ 40 ∧ TR.Rep n mk sp k ∧ H t = some (partO n mk sp k) ∧
  ∀ H', Same H H' → Q (.bl (badB n mk sp k)) H'
theorem ok_bad {f fO fS : Addr} {fd fdO fdS : FuncData} (T : Bt mg) (F : Fun K "is_bad" "is_bad" sBad f fd) (GO : FnOk P w K mg base CX0 1 fO fdO ["line"] spOri) (kO : PySem.W.keepIn K (.ref fO) = true) (bO : Binds K fdO ["line"] []) (gO : mg "is_oriented" = some (.ref fO))
    (GS : FnOk P w K mg base CX0 1 fS fdS ["line"] spShort) (kS : PySem.W.keepIn K (.ref fS) = true) (bS : Binds K fdS ["line"] []) (gS : mg "is_short" = some (.ref fS)) :
    FnOk P w K mg base CX0 2 f fd ["lines", "part"] spBad := by
  refine F.ok scBad (fun vs H Q E h => ?_) (fun cdv A outer s H vs Q E hr h => ?_)
  · obtain ⟨l, t, n, mk, sp, k, rfl, _⟩ := h
    rfl
  · obtain ⟨l, t, n, mk, sp, kk, rfl, hL, D, hn, rep, ht, k⟩ := h
    refine ⟨_, pss_cons (ps_if (pt_val (pe_callB (cr_any rfl) (by rfl) T.any (by decide +kernel) (pa_cons (pe_lc (own := [("k", 2)]) (g := gName 2) (by rfl) scBad.nd (pi_tup (pv 1))
          (blkOk_by (own := [("k", 2)]) (N := ["lines", "part", "k"]) (sc := defScope sBad) (by decide +kernel)) (fun _ _ _ _ _ => pg_name (i := 2) scBad.nd rfl (Or.inl rfl)) (fun _ _ _ _ _ => pts_nil)
          (fun _ _ _ _ _ => pe_call GO hr (by rfl) gO kO bO .nil pass0 (pa_cons (pe_ix (r := rIxT K) ix_tup (pv 0) (pv 2) (fun _ _ => rfl)) pa_nil))) pa_nil)))
        (pss_one (ps_ret pe_bl)) pss_nil)
      (pss_one (ps_ret (pe_or (pe_cmpR op_gt (pe_callB call_len_seq (by rfl) T.len PySem.boot_len (pa_cons (pv 1) pa_nil)) pe_int (nomark _))
        (pe_one (pe_not (pe_call GS hr (by rfl) gS kS bS .nil pass0 (pa_cons (pe_ix ix_tup (pv 0) (pe_ix ix_tup (pv 1) pe_int (fun _ _ => rfl)) (fun _ _ => rfl)) pa_nil))))))), ?_⟩
    refine ⟨_, rfl, t, rfl, ⟨_, SqT.of ht⟩, fun d hd => ?_⟩
    have sd : ∀ o, Same H (upd H d o) := fun o => same_upd hd
    have bi := TR.bad_iff D rep
    have obs : ∀ x, x < n + 1 → ((((TR.loF sp x : Nat) : Int) + ((TR.hiF sp x : Nat) : Int)) % 2 = 0 ↔ (TR.loF sp x + TR.hiF sp x) % 2 = 0) := fun x _ => by omega
    refine lc_tup (K := K) (a := t) (xs := (nI (TR.partL n mk sp kk)).map V.int) (fun i H' => H' = upd H d (.lst ((((TR.partL n mk sp kk).take i).map fun x => decide ((((TR.loF sp x : Nat) : Int) + ((TR.hiF sp x : Nat) : Int)) % 2 = 0)).map V.bl)))
      rfl (fun i H' _ e => by rw [e]; exact SqT.of (sd _ _ _ ht)) ?_ ?_
    · rintro i x H' hi rfl
      have il := (List.getElem?_eq_some_iff.mp hi).1
      rw [nI_len] at il
      obtain ⟨y, hy⟩ : ∃ y, (TR.partL n mk sp kk)[i]? = some y := ⟨_, List.getElem?_eq_getElem il⟩
      have ex : x = .int (y : Int) := Option.some.inj (hi.symm.trans (nI_at hy))
      subst ex
      have yn := (TR.mem_partL.mp (List.mem_of_getElem? hy)).1
      obtain ⟨xs, hx, lx, hxs⟩ := (hL.mono (sd (.lst ((((TR.partL n mk sp kk).take i).map fun x => decide ((((TR.loF sp x : Nat) : Int) + ((TR.hiF sp x : Nat) : Int)) % 2 = 0)).map V.bl)))).get
      obtain ⟨t1, a1, a2⟩ := hxs y yn
      have pl := TR.partL_len (n := n) (mk := mk) (sp := sp) kk
      refine ⟨rfl, iteT (B := True) ?_⟩
      refine ⟨_, rfl, _, rfl, l, _, _, _, rfl, rfl, SqT.of hx, atI_nat a1, t1, _, _, rfl, a2, ?_⟩
      refine ⟨_, upd_same, lt_line (by rw [List.length_map, List.length_map, List.length_take]; omega), ?_⟩
      rw [upd_upd, List.take_add_one, hy]
      simp
    · rintro H' rfl
      rw [nI_len, List.take_length]
      refine ⟨d, _, rfl, .inl (.inl upd_same), _, rfl, ?_⟩
      by_cases any : ∃ x, x ∈ TR.partL n mk sp kk ∧ (TR.loF sp x + TR.hiF sp x) % 2 = 0
      · have e : ((TR.partL n mk sp kk).map fun x => decide ((((TR.loF sp x : Nat) : Int) + ((TR.hiF sp x : Nat) : Int)) % 2 = 0)).any id = true := by
          obtain ⟨x, x1, x2⟩ := any
          rw [List.any_eq_true]
          exact ⟨true, List.mem_map.mpr ⟨x, x1, decide_eq_true ((obs x (TR.mem_partL.mp x1).1).mpr x2)⟩, rfl⟩
        rw [e]
        refine iteT (B := True) ?_
        have eb : badB n mk sp kk = false := by
          refine badB_no fun q => ?_
          obtain ⟨x, x1, x2⟩ := any
          exact (bi.mp q).1 x x1 x2
        rw [eb] at k
        exact k _ (sd _)
      · have e : ((TR.partL n mk sp kk).map fun x => decide ((((TR.loF sp x : Nat) : Int) + ((TR.hiF sp x : Nat) : Int)) % 2 = 0)).any id = false := by
          rw [List.any_eq_false]
          intro b hb
          obtain ⟨x, x1, rfl⟩ := List.mem_map.mp hb
          intro q
          exact any ⟨x, x1, (obs x (TR.mem_partL.mp x1).1).mp (of_decide_eq_true q)⟩
        rw [e]
        refine iteF ?_
        have no : ∀ x, x ∈ TR.partL n mk sp kk → (TR.loF sp x + TR.hiF sp x) % 2 ≠ 0 := fun x hx q => any ⟨x, hx, q⟩
        refine ⟨_, rfl, t, _, rfl, .inr (SqT.of (sd _ _ _ ht)), ?_⟩
        rw [nI_len]
        refine ⟨_, _, rfl, rfl, _, rfl, ?_⟩
        refine ite2 (fun h => ?_) (fun h => ?_)
        · have h : ((TR.partL n mk sp kk).length : Int) > 1 := of_decide_eq_true h
          have eb : badB n mk sp kk = true := badB_yes (bi.mpr ⟨no, .inl (by omega)⟩)
          rw [eb] at k
          exact k _ (sd _)
        · have h : ¬ ((TR.partL n mk sp kk).length : Int) > 1 := fun q => h (decide_eq_true q)
          obtain ⟨xs, hx, lx, hxs⟩ := (hL.mono (sd (.lst (((TR.partL n mk sp kk).map fun x => decide ((((TR.loF sp x : Nat) : Int) + ((TR.hiF sp x : Nat) : Int)) % 2 = 0)).map V.bl)))).get
          obtain ⟨t1, a1, a2⟩ := hxs kk rep.1
          refine ⟨_, rfl, _, rfl, t, _, _, _, rfl, rfl, SqT.of (sd _ _ _ ht), atI_nat (j := 0) (nI_at (TR.partL_head D rep)), l, _, _, _, rfl, rfl, SqT.of hx, atI_nat a1, t1, _, _, rfl, a2, _, rfl, ?_⟩
          have eb : badB n mk sp kk = !(decide (((TR.loF sp kk : Nat) : Int) % 2 = 0) && decide (((TR.hiF sp kk : Nat) : Int) = ((TR.loF sp kk : Nat) : Int) + 1)) := by
            by_cases sh : TR.loF sp kk % 2 = 0 ∧ TR.hiF sp kk = TR.loF sp kk + 1
            · have q1 : ((TR.loF sp kk : Nat) : Int) % 2 = 0 := by omega
              have q2 : ((TR.hiF sp kk : Nat) : Int) = ((TR.loF sp kk : Nat) : Int) + 1 := by omega
              rw [decide_eq_true q1, decide_eq_true q2]
              refine badB_no fun q => ?_
              rcases (bi.mp q).2 with z | z
              · omega
              · exact z sh
            · have q : ¬ (((TR.loF sp kk : Nat) : Int) % 2 = 0 ∧ ((TR.hiF sp kk : Nat) : Int) = ((TR.loF sp kk : Nat) : Int) + 1) := fun q => sh (by omega)
              rw [← Bool.decide_and, decide_eq_false q]
              exact badB_yes (bi.mpr ⟨no, .inr sh⟩)
          rw [eb] at k
          exact k _ (sd _)
end
end TW

/-! W9 -/
/-! sorted of pairs (int, object) whose ints all differ -/
namespace TWs
open PySem PyProof.Rows
section
variable {prog : Program} {w : World} {A : Around} {s : Shared} {E : Value → Shared → Prop}
def IsKey (h : Heap) (v : Value) (x : Int) : Prop := ∃ a o t b n, v = .ref a ∧ h.get? a = some o ∧ o.cls = .type "tuple" ∧ o.data = .seq #[.int x t, .ref b] n
abbrev byKey (kv : Value → Int) : Value → Value → Bool := fun v u => decide (kv v < kv u)
theorem byKey_ord (kv : Value → Int) : SrtO.Swo (byKey kv) where
  asym := fun x y h => decide_eq_false fun q => by
    have := of_decide_eq_true h
    omega
  tr := fun x y z h k => decide_eq_false fun q => by
    have h1 := of_decide_eq_false h
    have h2 := of_decide_eq_false k
    omega
theorem key_cmp {vs : List Value} {kv : Value → Int} (hp : ∀ v ∈ vs, IsKey s.heap v (kv v)) (inj : ∀ v ∈ vs, ∀ u ∈ vs, kv v = kv u → v = u) : SrtO.Cmp prog w A s (tuples' true) (fun p => p.1 ∈ vs) (SrtO.lt2 (byKey kv)) := by
  intro p q hm hm'
  show wpAny (model prog w) A (keyLt' (tuples' true) p.1 q.1) (fun r s' => s' = s ∧ r = decide (kv p.1 < kv q.1)) (fun _ _ => False) s
  by_cases e : kv p.1 = kv q.1
  · have e2 := inj _ hm _ hm' e
    obtain ⟨a, o, t, b, n, ea, ho, hc, hd⟩ := hp _ hm
    rw [← e2, ea]
    refine PySem.W.kat_lt ho hd ho hd ?_
    generalize kv p.1 = x at hd
    show PySem.W.KatLex prog w A true (decide (2 < 2)) _ [(.int x t, .int x t), (.ref b, .ref b)] 0 s
    refine PySem.W.kat_cons (SeqAt.EqAt.int_int x t x t prog w _ _ (PySem.W.kat_go (fun _ => ?_) fun z => ?_))
    · refine PySem.W.kat_yes (PySem.W.kat_cons (SeqAt.EqAt.same (.ref b) prog w _ _ (PySem.W.kat_yes (PySem.W.kat_nil ⟨rfl, ?_⟩))))
      exact (decide_eq_false (Int.lt_irrefl _)).symm
    · simp at z
  · obtain ⟨a, o, t, b, n, ea, ho, hc, hd⟩ := hp _ hm
    obtain ⟨a', o', t', b', n', ea', ho', hc', hd'⟩ := hp _ hm'
    generalize hx : kv p.1 = x at e hd
    generalize hy : kv q.1 = y at e hd'
    rw [ea, ea']
    refine PySem.W.kat_lt ho hd ho' hd' ?_
    show PySem.W.KatLex prog w A true (decide (2 < 2)) _ [(.int x t, .int y t'), (.ref b, .ref b')] 0 s
    refine PySem.W.kat_cons (SeqAt.EqAt.int_int x t y t' prog w _ _ (PySem.W.kat_go (fun z => ?_) fun _ => ?_))
    · exact absurd (by simpa using z) e
    · exact PySem.W.kat_no (oneLt_int ⟨rfl, rfl⟩)
theorem IsKey.keeps {h h' : Heap} {v : Value} {x : Int} (p : IsKey h v x) (k : ∀ b o, h.get? b = some o → o.cls = .type "tuple" → h'.get? b = some o) : IsKey h' v x := by
  obtain ⟨a, o, t, b, n, e, ho, hc, hd⟩ := p
  exact ⟨a, o, t, b, n, e, k _ _ ho hc, hc, hd⟩
theorem key_firsts {h : Heap} {kv : Value → Int} (vs : List Value) : (∀ v ∈ vs, IsKey h v (kv v)) → ∃ fs : List Value, PySem.W.KatTups h vs fs ∧ fs.length = vs.length ∧ ∀ f ∈ fs, ∃ x t, f = Value.int x t := by
  induction vs with
  | nil => exact fun _ => ⟨[], PySem.W.KatTups.nil, rfl, fun _ hm => absurd hm List.not_mem_nil⟩
  | cons v vs ih =>
    intro hp
    obtain ⟨fs, h1, h2, h3⟩ := ih fun u hu => hp u (List.mem_cons_of_mem _ hu)
    obtain ⟨a, o, t, b, n, e, ho, hc, hd⟩ := hp v List.mem_cons_self
    generalize kv v = x at hd
    subst e
    refine ⟨.int x t :: fs, PySem.W.KatTups.cons ho hc hd rfl h1, by rw [List.length_cons, List.length_cons, h2], fun f hf => ?_⟩
    rcases List.mem_cons.mp hf with z | z
    · exact ⟨x, t, z⟩
    · exact h3 f z
theorem key_sortable {a : Addr} {vs : List Value} {kv : Value → Int} (h0 : 0 < vs.length) (hp : ∀ v ∈ vs, IsKey s.heap v (kv v)) (inj : ∀ v ∈ vs, ∀ u ∈ vs, kv v = kv u → v = u) (ha : ∀ o, s.heap.get? a = some o → o.cls ≠ .type "tuple") :
    SrtO.SortableO prog w A s a vs (byKey kv) := fun h' keep => by
  have hp' : ∀ v ∈ vs, IsKey h' v (kv v) := fun v hv => (hp v hv).keeps fun b o e c => keep b o (fun z => by
    rw [z] at e
    exact ha o e c) e
  obtain ⟨fs, h1, h2, h3⟩ := key_firsts vs hp'
  refine ⟨tuples' true, fun Q E hq => PySem.W.kat_kind (T := .type "int") h1 (by omega) (fun f hf => ?_) (by rfl) ?_, key_cmp hp' inj⟩
  · obtain ⟨x, t, rfl⟩ := h3 f hf
    exact PySem.W.Looks.now
  · have e : (Value.type "int" != Value.type "tuple") = true := by first | decide +kernel | rfl | decide
    rw [e]
    exact hq
end
end TWs
namespace TW
open PySem L2
/-- sorted(xs), xs a list of pairs (int, object) with different ints: a new list of the same, by the ints -/
def rSortK (K : PySem.W.Frag) : List V → Hp → VK → Prop := fun vs H Q => ∃ (a : Addr) (ts : List Addr) (key : Addr → Int), vs = [V.ref a] ∧ SqL K H a (ts.map V.ref) ∧ (∀ t, t ∈ ts → ∃ b, H t = some (.tup [.int (key t), .ref b])) ∧
  (∀ t, t ∈ ts → ∀ u, u ∈ ts → key t = key u → t = u) ∧ ∀ (us : List Addr) (p : Addr), us.Perm ts → (us.map key).Pairwise (· ≤ ·) → H p = none → Q (.ref p) (upd H p (.lst (us.map V.ref)))
def adr : V → Addr
  | .ref a => a
  | _ => 0
def adrV : Value → Addr
  | .ref a => a
  | _ => 0
theorem cr_sortK {X : Cx} : CallR X (.builtin "sorted") (rSortK X.K) := by
  intro pins s σ H vs us Q I r h
  obtain ⟨a, ts, key, rfl, hs, hx, inj, q⟩ := h
  obtain ⟨its, rv, hl, hz⟩ := I.list hs
  obtain ⟨u, rfl, ru⟩ := vals1 r
  obtain rfl : u = Value.ref a := ru
  have eits : its = ts.map Value.ref := by
    clear hl hz hs hx inj q
    induction ts generalizing its with
    | nil => cases rv; rfl
    | cons t ts ih =>
      cases rv with
      | cons r1 r2 =>
        cases r1
        rw [ih _ r2]
        rfl
  subst eits
  have mem : ∀ v ∈ ts.map Value.ref, ∃ t, t ∈ ts ∧ v = Value.ref t := fun v hv => by
    obtain ⟨t, t1, t2⟩ := List.mem_map.mp hv
    exact ⟨t, t1, t2.symm⟩
  have hkey : ∀ v ∈ ts.map Value.ref, TWs.IsKey s.heap v (key (adrV v)) := fun v hv => by
    obtain ⟨t, t1, rfl⟩ := mem v hv
    obtain ⟨b, hb⟩ := hx t t1
    obtain ⟨_, its2, r2, o, ho, hc, n, hd⟩ := I.hok _ _ hb
    obtain ⟨u1, u2, rfl, ri, rj⟩ := vals2 r2
    obtain ⟨t1, rfl⟩ := ri
    obtain rfl : u2 = Value.ref b := rj
    exact ⟨t, o, t1, b, n, rfl, ho, hc, hd⟩
  have hinj : ∀ v ∈ ts.map Value.ref, ∀ u ∈ ts.map Value.ref, key (adrV v) = key (adrV u) → v = u := fun v hv u hu e => by
    obtain ⟨t, t1, rfl⟩ := mem v hv
    obtain ⟨t', t1', rfl⟩ := mem u hu
    rw [inj t t1 t' t1' e]
  have hz' : (ts.map Value.ref).length ≤ sizeLine := by
    rw [List.length_map] at hz ⊢
    exact hz
  refine SrtO.sorted_ord (TWs.byKey_ord fun v => key (adrV v)) hl.isList hz' (fun h2 h₁ c hc kk => ?_) fun out hsd hsb => ?_
  · refine TWs.key_sortable (s := { s with heap := h₁ }) (by omega) (fun v hv => (hkey v hv).keeps fun b o e _ => (kk b o e).2) hinj fun o e z => ?_
    have e' : some o = some (PyProof.Rows.seqObj "list" (ts.map Value.ref).toArray 0) := e.symm.trans hc
    cases e'
    exact absurd (Value.type.inj z) (by decide)
  · obtain ⟨n, hn⟩ := PyProof.Rows.sortedAll_at s.heap (ts.map Value.ref) out.toArray
    obtain ⟨us, pm, eo⟩ : ∃ us : List Addr, us.Perm ts ∧ out = us.map Value.ref := by
      refine ⟨out.map adrV, ?_, ?_⟩
      · have := hsb.perm.map adrV
        rw [List.map_map] at this
        have e : adrV ∘ Value.ref = id := rfl
        rwa [e, List.map_id] at this
      · rw [List.map_map]
        refine Eq.trans (List.map_id out).symm (List.map_congr_left fun v hv => ?_)
        obtain ⟨t, _, rfl⟩ := mem v (hsb.perm.mem_iff.mp hv)
        rfl
    subst eo
    have hlen : (us.map V.ref).length ≤ sizeLine := by
      rw [List.length_map, pm.length_eq]
      rwa [List.length_map] at hz'
    have rvo : ∀ us : List Addr, Vals (us.map V.ref) (us.map Value.ref) := fun us => by
      induction us with
      | nil => exact .nil
      | cons t r ih => exact .cons rfl ih
    refine ⟨.ref _, upd H (s.heap.objs.size + 1) (.lst (us.map V.ref)), I.laid (t' := s.toks) (fun _ _ => PyProof.Rows.sortedAll_old) (Nat.le_succ _) ⟨hlen, us.map Value.ref, n, rvo us, hn⟩, rfl, q us _ pm ?_ (I.hok.fresh (Nat.le_succ _))⟩
    rw [List.pairwise_map]
    have h3 := List.pairwise_map.mp hsd
    exact h3.imp fun {t u} h => by
      have := of_decide_eq_false h
      show key t ≤ key u
      have e : ¬ key u < key t := this
      omega
theorem perm_back {α β : Type} {f : α → β} {l1 l2 : List β} (h : l1.Perm l2) : ∀ l : List α, l.map f = l1 → ∃ m, l.Perm m ∧ m.map f = l2 := by
  induction h with
  | nil =>
    intro l e
    exact ⟨l, .refl _, e⟩
  | cons x _ ih =>
    intro l e
    match l, e with
    | y :: r, e =>
      obtain ⟨h1, h2⟩ := List.cons.inj e
      obtain ⟨m, m1, m2⟩ := ih r h2
      exact ⟨y :: m, m1.cons y, by rw [List.map_cons, m2, h1]⟩
  | swap x y r =>
    intro l e
    match l, e with
    | a :: b :: t, e =>
      obtain ⟨h1, h2⟩ := List.cons.inj e
      obtain ⟨h3, h4⟩ := List.cons.inj h2
      exact ⟨b :: a :: t, List.Perm.swap b a t, by rw [List.map_cons, List.map_cons, h1, h3, h4]⟩
  | trans _ _ ih1 ih2 =>
    intro l e
    obtain ⟨m, m1, m2⟩ := ih1 l e
    obtain ⟨m', m3, m4⟩ := ih2 m m2
    exact ⟨m', m1.trans m3, m4⟩
end TW

/-! W10 -/
namespace TW
open PySem L2
section
variable {P : Program} {w : World} {K : PySem.W.Frag} {mg : Str → Option Value} {base : Heap}
/-! ### bad_parts -/
abbrev sBads : Stmt := top 22
theorem scBads : FnScope ["row", "lines", "part"] ["row"] (defScope sBads) := ⟨rfl, rfl, rfl, by decide +kernel, rfl, by decide +kernel, by decide +kernel⟩
def spBads : Sp := fun vs H Q _ => ∃ (a : Addr) (n : Nat) (r : List Int) (mk sp : Nat → Nat), vs = [.ref a] ∧ H a = some (rowO r) ∧ TR.Rw n r mk sp ∧ n ≤ 40 ∧
  ∀ H' p L, Same H H' → H p = none → H' p = some (.tup (refsL L)) → PtsOk n mk sp H' L → L.map (·.1) = TR.bads n mk sp → Q (.ref p) H'
open Classical in
theorem bads_filter (n : Nat) (mk sp : Nat → Nat) : (TR.repL n mk sp).filter (badB n mk sp) = TR.bads n mk sp := by
  unfold TR.repL TR.bads badB
  rw [List.filter_filter]
  refine List.filter_congr fun k _ => ?_
  by_cases h1 : TR.Rep n mk sp k <;> by_cases h2 : TR.Bad n mk sp (TR.cl sp k) <;> simp [h1, h2]
theorem ok_bads {f fL fP fB : Addr} {fd fdL fdP fdB : FuncData} (T : Bt mg) (F : Fun K "bad_parts" "bad_parts" sBads f fd) (GL : FnOk P w K mg base CX0 3 fL fdL ["row"] spLines) (kL : PySem.W.keepIn K (.ref fL) = true) (bL : Binds K fdL ["row"] []) (gL : mg "light_lines" = some (.ref fL))
    (GP : FnOk P w K mg base CX0 3 fP fdP ["lines"] spPts) (kP : PySem.W.keepIn K (.ref fP) = true) (bP : Binds K fdP ["lines"] []) (gP : mg "parts_of" = some (.ref fP)) (GB : FnOk P w K mg base CX0 2 fB fdB ["lines", "part"] spBad) (kB : PySem.W.keepIn K (.ref fB) = true) (bB : Binds K fdB ["lines", "part"] []) (gB : mg "is_bad" = some (.ref fB)) :
    FnOk P w K mg base CX0 4 f fd ["row"] spBads := by
  refine F.ok scBads (fun vs H Q E h => ?_) (fun cdv A outer s H vs Q E hr h => ?_)
  · obtain ⟨a, n, r, mk, sp, rfl, _⟩ := h
    rfl
  · obtain ⟨a, n, r, mk, sp, rfl, ha, R, hn, k⟩ := h
    have D := R.dr
    have hr2 : Room 2 _ := hr.mono (by decide)
    refine ⟨_, pss_cons (ps_set (i := 1) scBads.nd rfl (Or.inr rfl) (pe_call GL hr (by rfl) gL kL bL .nil pass0 (pa_cons (pv 0) pa_nil)))
      (pss_one (ps_ret (pe_callTy call_tuple_of (by rfl) T.tuple (by decide +kernel) (pa_cons (pe_lc (own := [("part", 2)]) (g := gName 2) (by rfl) scBads.nd (pi_tup (pe_call GP hr (by rfl) gP kP bP .nil pass0 (pa_cons (pv 1) pa_nil)))
          (blkOk_by (own := [("part", 2)]) (N := ["row", "lines", "part"]) (sc := defScope sBads) (by decide +kernel)) (fun _ _ _ _ _ => pg_name (i := 2) scBads.nd rfl (Or.inl rfl))
          (fun _ _ _ _ _ => pts_one (pt_val (pe_call GB hr2 (by rfl) gB kB bB .nil pass0 (pa_cons (pv 1) (pa_cons (pv 2) pa_nil))))) (fun _ _ _ _ _ => pv 2)) pa_nil)))), ?_⟩
    refine ⟨_, rfl, a, n, r, mk, sp, rfl, ha, R, hn, fun H1 l s1 nl hl => ?_⟩
    refine ⟨_, rfl, l, n, mk, sp, rfl, hl, D, hn, fun H2 p L s2 np hp hP hLr => ?_⟩
    refine ⟨p, rfl, ⟨_, SqT.of hp⟩, fun d nd => ?_⟩
    have s12 := s1.trans s2
    have lL : L.length ≤ n + 1 := by
      have e := congrArg List.length hLr
      rw [List.length_map] at e
      rw [e]
      unfold TR.repL
      refine Nat.le_trans (List.length_filter_le _ _) ?_
      rw [List.length_range]
      exact Nat.le_refl _
    refine lc_tup (K := K) (a := p) (xs := refsL L) (fun i H' => Same H2 H' ∧ H' d = some (.lst (refsL ((L.take i).filter fun x => badB n mk sp x.1))))
      ⟨same_upd nd, upd_same⟩ (fun i H' _ h => SqT.of (h.1 _ _ hp)) ?_ ?_
    · rintro i x H' hi ⟨s3, hd⟩
      obtain ⟨y, hy, rfl⟩ := refsL_at hi
      have hyL : y ∈ L := List.mem_of_getElem? hy
      have rep : TR.Rep n mk sp y.1 := by
        have : y.1 ∈ L.map (·.1) := List.mem_map.mpr ⟨y, hyL, rfl⟩
        rw [hLr] at this
        exact TR.mem_repL.mp this
      refine ⟨rfl, ?_⟩
      refine ⟨_, rfl, _, rfl, l, y.2, n, mk, sp, y.1, rfl, hl.mono (s2.trans s3), D, hn, rep, s3 _ _ (hP y hyL), fun H4 s4 => ⟨_, rfl, ?_⟩⟩
      have tk : L.take (i + 1) = L.take i ++ [y] := by rw [List.take_add_one, hy]; rfl
      have ln : (refsL ((L.take i).filter fun x => badB n mk sp x.1)).length ≤ 100000 := by
        rw [refsL_len]
        refine Nat.le_trans (List.length_filter_le _ _) ?_
        rw [List.length_take]
        omega
      refine ite2 (fun h => ?_) (fun h => ?_)
      · refine ⟨_, rfl, _, s4 _ _ hd, lt_line ln, fun c u e => ?_, ?_⟩
        · rw [upd_ne (ne_of_none e nd)]
          exact s4 _ _ (s3 _ _ e)
        · rw [upd_same, tk, List.filter_append, refsL_append, List.filter_cons_of_pos (p := fun x : Nat × Addr => badB n mk sp x.1) h]
          rfl
      · refine ⟨s3.trans s4, ?_⟩
        rw [tk, List.filter_append, refsL_append, List.filter_cons_of_neg (p := fun x : Nat × Addr => badB n mk sp x.1) h, List.filter_nil]
        show H4 d = some (.lst (_ ++ []))
        rw [List.append_nil]
        exact s4 _ _ hd
    · rintro H' ⟨s3, hd⟩
      rw [refsL_len, List.take_length] at hd
      refine ⟨d, _, rfl, .inl ⟨.inl (.inl hd), fun q nq => ?_⟩⟩
      have sA := (s12.trans s3)
      refine k _ q (L.filter fun x => badB n mk sp x.1) (sA.trans (same_upd nq)) (sA.free nq) upd_same (fun x hx => ?_) ?_
      · exact same_upd nq _ _ (s3 _ _ (hP x (List.mem_filter.mp hx).1))
      · rw [← bads_filter, ← hLr, List.filter_map]
        rfl
/-! ### the round -/
/-- parts of which each has another least line -/
structure PsL (n : Nat) (mk sp : Nat → Nat) (L : List (Nat × Addr)) : Prop where
  rep : ∀ x, x ∈ L → TR.Rep n mk sp x.1
  nd : (L.map (·.1)).Nodup
theorem PsL.len {n : Nat} {mk sp : Nat → Nat} {L : List (Nat × Addr)} (h : PsL n mk sp L) : L.length ≤ n + 1 := by
  have := TR.sub_len (L.map (·.1)) (List.range (n + 1)) h.nd fun k hk => by
    obtain ⟨x, x1, rfl⟩ := List.mem_map.mp hk
    exact List.mem_range.mpr (h.rep x x1).1
  rwa [List.length_map, List.length_range] at this
theorem PsL.inj {n : Nat} {mk sp : Nat → Nat} {L : List (Nat × Addr)} (h : PsL n mk sp L) {x y : Nat × Addr} (hx : x ∈ L) (hy : y ∈ L) (e : x.1 = y.1) : x = y := by
  obtain ⟨i, hi⟩ := List.mem_iff_getElem?.mp hx
  obtain ⟨j, hj⟩ := List.mem_iff_getElem?.mp hy
  have li := (List.getElem?_eq_some_iff.mp hi).1
  have lj := (List.getElem?_eq_some_iff.mp hj).1
  have nd := TR.nodup_at.mp h.nd
  have ei : (L.map (·.1))[i]? = some x.1 := by rw [List.getElem?_map, hi]; rfl
  have ej : (L.map (·.1))[j]? = some y.1 := by rw [List.getElem?_map, hj]; rfl
  rcases Nat.lt_trichotomy i j with q | q | q
  · exact absurd (by rw [ei, ej, e]) (nd i j q (by rw [List.length_map]; exact lj))
  · rw [q] at hi
    exact Option.some.inj (hi.symm.trans hj)
  · exact absurd (by rw [ei, ej, e]) (nd j i q (by rw [List.length_map]; exact li))
structure RoundOk (n : Nat) (mk sp : Nat → Nat) (L : List (Nat × Addr)) (M : List (Nat × Nat × Addr)) : Prop where
  asc : (M.map (·.1)).Pairwise (· < ·)
  mem : ∀ e, e ∈ M ↔ e.2 ∈ L ∧ e.1 < 2 * n + 2 ∧ TR.Cn n mk sp (TR.cl sp e.2.1) e.1
def ent1 (sp : Nat → Nat) (x : Nat × Addr) (k : Nat) : List (Nat × Nat × Addr) := [(TR.loF sp k, x), (TR.hiF sp k, x)]
noncomputable def ent (n : Nat) (mk sp : Nat → Nat) (x : Nat × Addr) : List (Nat × Nat × Addr) := (TR.partL n mk sp x.1).flatMap (ent1 sp x)
theorem lohi_iff {n : Nat} {mk sp : Nat → Nat} (D : TR.Dr n mk sp) {k s : Nat} (hk : k < n + 1) : (s = TR.loF sp k ∨ s = TR.hiF sp k) ↔ s < 2 * n + 2 ∧ mk s / 2 = k := by
  have a := D.sp_lt (2 * k) (by omega)
  have b := D.sp_lt (2 * k + 1) (by omega)
  have ma := D.mk_sp (2 * k) (by omega)
  have mb := D.mk_sp (2 * k + 1) (by omega)
  have lh : (s = TR.loF sp k ∨ s = TR.hiF sp k) ↔ (s = sp (2 * k) ∨ s = sp (2 * k + 1)) := by
    unfold TR.loF TR.hiF
    omega
  rw [lh]
  constructor
  · rintro (e | e)
    · rw [e, ma]
      omega
    · rw [e, mb]
      omega
  · rintro ⟨h1, h2⟩
    rcases Nat.mod_two_eq_zero_or_one (mk s) with e | e
    · exact .inl (by rw [show 2 * k = mk s by omega, D.sp_mk s h1])
    · exact .inr (by rw [show 2 * k + 1 = mk s by omega, D.sp_mk s h1])
theorem mem_ent {n : Nat} {mk sp : Nat → Nat} (D : TR.Dr n mk sp) {x : Nat × Addr} (hx : TR.Rep n mk sp x.1) (e : Nat × Nat × Addr) : e ∈ ent n mk sp x ↔ e.2 = x ∧ e.1 < 2 * n + 2 ∧ TR.Cn n mk sp (TR.cl sp x.1) e.1 := by
  unfold ent ent1
  rw [List.mem_flatMap]
  constructor
  · rintro ⟨k, k1, k2⟩
    have kn := (TR.mem_partL.mp k1).1
    have h : e.2 = x ∧ (e.1 = TR.loF sp k ∨ e.1 = TR.hiF sp k) := by
      rcases List.mem_cons.mp k2 with q | q
      · rw [q]
        exact ⟨rfl, .inl rfl⟩
      · rw [List.mem_singleton.mp q]
        exact ⟨rfl, .inr rfl⟩
    obtain ⟨h1, h2⟩ := (lohi_iff D kn).mp h.2
    exact ⟨h.1, h1, (TR.con_line D hx.1 h1).mpr (h2 ▸ k1)⟩
  · rintro ⟨h1, h2, h3⟩
    have k1 := (TR.con_line D hx.1 h2).mp h3
    refine ⟨_, k1, ?_⟩
    have := (lohi_iff D (TR.mem_partL.mp k1).1).mpr ⟨h2, rfl⟩
    obtain ⟨e1, e2⟩ := e
    have h1 : e2 = x := h1
    subst h1
    rcases this with q | q
    · have q : e1 = _ := q
      rw [List.mem_cons]
      exact .inl (by rw [← q])
    · have q : e1 = _ := q
      exact List.mem_cons_of_mem _ (List.mem_singleton.mpr (by rw [← q]))
theorem ents_diff {n : Nat} {mk sp : Nat → Nat} (D : TR.Dr n mk sp) {L : List (Nat × Addr)} (h : PsL n mk sp L) : (L.flatMap (ent n mk sp)).Pairwise fun e f => e.1 ≠ f.1 := by
  rw [List.pairwise_flatMap]
  constructor
  · intro x hx
    unfold ent
    rw [List.pairwise_flatMap]
    constructor
    · intro k hk
      have := TR.lo_lt D (TR.mem_partL.mp hk).1
      unfold ent1
      refine List.pairwise_cons.mpr ⟨fun f hf => ?_, List.pairwise_singleton _ _⟩
      rw [List.mem_singleton.mp hf]
      show TR.loF sp k ≠ TR.hiF sp k
      omega
    · refine (TR.asc_partL x.1).imp_of_mem fun {k l} hk hl lt e he f hf q => ?_
      have spot : ∀ {k : Nat} {e : Nat × Nat × Addr}, k ∈ TR.partL n mk sp x.1 → e ∈ ent1 sp x k → mk e.1 / 2 = k := fun {k e} hk he => by
        refine ((lohi_iff D (TR.mem_partL.mp hk).1).mp ?_).2
        unfold ent1 at he
        rcases List.mem_cons.mp he with z | z
        · rw [z]
          exact .inl rfl
        · rw [List.mem_singleton.mp z]
          exact .inr rfl
      have a := spot hk he
      have b := spot hl hf
      rw [q] at a
      omega
  · have := h.nd
    have nd : L.Pairwise fun x y => x.1 ≠ y.1 := List.pairwise_map.mp this
    refine nd.imp_of_mem fun {x y} hx hy ne e he f hf q => ?_
    obtain ⟨a1, a2, a3⟩ := (mem_ent D (h.rep x hx) e).mp he
    obtain ⟨b1, b2, b3⟩ := (mem_ent D (h.rep y hy) f).mp hf
    rw [q] at a3
    exact ne (TR.rep_eq D (h.rep x hx) (h.rep y hy) (a3.trans (b3.sy D (TR.cl_lt D (h.rep y hy).1))))
end
end TW

/-! W11 -/
namespace TW
open PySem L2
section
variable {P : Program} {w : World} {K : PySem.W.Frag} {mg : Str → Option Value} {base : Heap}
/-- entries, each with the address of its pair -/
abbrev Ents := List ((Nat × Nat × Addr) × Addr)
def EntsOk (H : Hp) (E : Ents) : Prop := ∀ e, e ∈ E → H e.2 = some (.tup [.int (e.1.1 : Int), .ref e.1.2.2])
def refsE (E : Ents) : List V := E.map fun e => V.ref e.2
theorem refsE_append (E F : Ents) : refsE (E ++ F) = refsE E ++ refsE F := List.map_append
theorem refsE_len (E : Ents) : (refsE E).length = E.length := List.length_map _
def keyOf (H : Hp) (t : Addr) : Int := match H t with
  | some (.tup (.int i :: _)) => i
  | _ => 0
theorem keyOf_ent {H : Hp} {E : Ents} (h : EntsOk H E) {e : (Nat × Nat × Addr) × Addr} (he : e ∈ E) : keyOf H e.2 = (e.1.1 : Int) := by
  unfold keyOf
  rw [h e he]
theorem diff_inj {α : Type} {f : α → Nat} {l : List α} (h : l.Pairwise fun a b => f a ≠ f b) {a b : α} (ha : a ∈ l) (hb : b ∈ l) (e : f a = f b) : a = b := by
  obtain ⟨i, hi⟩ := List.mem_iff_getElem?.mp ha
  obtain ⟨j, hj⟩ := List.mem_iff_getElem?.mp hb
  obtain ⟨li, ei⟩ := List.getElem?_eq_some_iff.mp hi
  obtain ⟨lj, ej⟩ := List.getElem?_eq_some_iff.mp hj
  rw [List.pairwise_iff_getElem] at h
  rcases Nat.lt_trichotomy i j with q | q | q
  · exact absurd (by rw [ei, ej, e]) (h i j li lj q)
  · subst q
    exact ei.symm.trans ej
  · exact absurd (by rw [ei, ej, e]) (h j i lj li q)
/-- sorted by the ints, the entries are a round -/
theorem round_of_sorted {n : Nat} {mk sp : Nat → Nat} (D : TR.Dr n mk sp) {L : List (Nat × Addr)} (hL : PsL n mk sp L) {E E' : Ents} (hE : E.map (·.1) = L.flatMap (ent n mk sp)) (pm : E.Perm E') (asc : E'.Pairwise fun e f => e.1.1 ≤ f.1.1) : RoundOk n mk sp L (E'.map (·.1)) := by
  have df := ents_diff D hL
  rw [← hE, List.pairwise_map] at df
  have df' : E'.Pairwise fun e f => e.1.1 ≠ f.1.1 := (pm.pairwise_iff fun {x y} h e => h e.symm).mp df
  constructor
  · rw [List.map_map, List.pairwise_map]
    exact (List.Pairwise.and asc df').imp fun {e f} h => by
      show e.1.1 < f.1.1
      have h1 := h.1
      have h2 := h.2
      omega
  · intro e
    have e1 : e ∈ E'.map (·.1) ↔ e ∈ E.map (·.1) := (pm.map (·.1)).symm.mem_iff
    rw [e1, hE, List.mem_flatMap]
    constructor
    · rintro ⟨x, x1, x2⟩
      obtain ⟨a, b, c⟩ := (mem_ent D (hL.rep x x1) e).mp x2
      rw [a]
      exact ⟨x1, b, c⟩
    · rintro ⟨a, b, c⟩
      exact ⟨e.2, a, (mem_ent D (hL.rep _ a) e).mpr ⟨rfl, b, c⟩⟩
abbrev sRound : Stmt := top 24
theorem scRound : FnScope ["lines", "some", "told", "part", "k", "_"] ["lines", "some"] (defScope sRound) := ⟨rfl, rfl, rfl, by decide +kernel, rfl, by decide +kernel, by decide +kernel⟩
def spRound : Sp := fun vs H Q _ => ∃ (l p : Addr) (n : Nat) (mk sp : Nat → Nat) (L : List (Nat × Addr)), vs = [.ref l, .ref p] ∧ LinesAt n sp H l ∧ TR.Dr n mk sp ∧ n ≤ 40 ∧ H p = some (.tup (refsL L)) ∧ PtsOk n mk sp H L ∧ PsL n mk sp L ∧
  ∀ H' q M, Same H H' → H q = none → H' q = some (.lst (M.map fun (e : Nat × Nat × Addr) => V.ref e.2.2)) → RoundOk n mk sp L M → Q (.ref q) H'
theorem ok_round {f : Addr} {fd : FuncData} (T : Bt mg) (F : Fun K "round_of" "round_of" sRound f fd) : FnOk P w K mg base CX0 1 f fd ["lines", "some"] spRound := by
  refine F.ok scRound (fun vs H Q E h => ?_) (fun cdv A outer s H vs Q E hr h => ?_)
  · obtain ⟨l, p, n, mk, sp, L, rfl, _⟩ := h
    rfl
  · obtain ⟨l, p, n, mk, sp, L, rfl, hl, D, hn, hp, hP, hL, k⟩ := h
    have lL := hL.len
    refine ⟨_, pss_cons (ps_set (i := 2) scRound.nd rfl (Or.inl rfl) (pe_lst pa_nil))
      (pss_cons (ps_for PassesOwn.never rfl (pi_tup (pv 1)) (pg_name (i := 3) scRound.nd rfl (Or.inl rfl))
        (pss_one (ps_for PassesOwn.never rfl (pi_tup (pv 3)) (pg_name (i := 4) scRound.nd rfl (Or.inl rfl))
          (pss_cons (ps_expr (pe_bm PySem.F.plainAttrs_list PySem.F.slot_list_append PySem.F.type_list_append mt_append (pv 2) (pa_cons (pe_tup (pa_cons (pe_ix ix_tup (pe_ix ix_tup (pv 0) (pv 4) (fun _ _ => rfl)) pe_int (fun _ _ => rfl)) (pa_cons (pv 3) pa_nil))) pa_nil)))
          (pss_one (ps_expr (pe_bm PySem.F.plainAttrs_list PySem.F.slot_list_append PySem.F.type_list_append mt_append (pv 2) (pa_cons (pe_tup (pa_cons (pe_ix ix_tup (pe_ix ix_tup (pv 0) (pv 4) (fun _ _ => rfl)) pe_int (fun _ _ => rfl)) (pa_cons (pv 3) pa_nil))) pa_nil))))))))
      (pss_one (ps_ret (pe_lc (own := [("_", 5), ("part", 3)]) (g := gTup K 2 (gCons (gName 5) (gCons (gName 3) gNil))) (by rfl) scRound.nd (pi_list (pe_callB cr_sortK (by rfl) T.sorted (by decide +kernel) (pa_cons (pv 2) pa_nil)))
          (blkOk_by (own := [("_", 5), ("part", 3)]) (N := ["lines", "some", "told", "part", "k", "_"]) (sc := defScope sRound) (by decide +kernel))
          (fun _ _ _ _ _ => pg_tup rfl (pgs_cons (pg_name (i := 5) scRound.nd rfl (Or.inl rfl)) (pgs_cons (pg_name (i := 3) scRound.nd rfl (Or.inl rfl)) pgs_nil)))
          (fun _ _ _ _ _ => pts_nil) (fun _ _ _ _ _ => pv 3))))), ?_⟩
    refine ⟨Nat.zero_le _, fun fo nfo => ?_⟩
    have s1 : Same H (upd H fo (.lst [])) := same_upd nfo
    refine ⟨_, rfl, p, rfl, ⟨_, SqT.of (s1 _ _ hp)⟩, for_tup (K := K) (a := p) (xs := refsL L) (fun i σ H' => ∃ (v3 v4 : Option V) (E : Ents), σ = [some (.ref l), some (.ref p), some (.ref fo), v3, v4, none] ∧ Same H H' ∧ H' fo = some (.lst (refsE E)) ∧ EntsOk H' E ∧
        E.map (·.1) = (L.take i).flatMap (ent n mk sp) ∧ E.length ≤ 82 * i)
      ⟨none, none, [], rfl, s1, upd_same, fun e he => absurd he List.not_mem_nil, rfl, Nat.zero_le _⟩ (fun i σ H' _ ⟨_, _, _, _, sm, _⟩ => SqT.of (sm _ _ hp)) ?_ ?_⟩
    · rintro i x σ H1 hi ⟨v3, v4, E, rfl, sm, hfo, hE, hM, hlen⟩
      obtain ⟨y, hy, rfl⟩ := refsL_at hi
      have hyL : y ∈ L := List.mem_of_getElem? hy
      have rep := hL.rep y hyL
      have tk : L.take (i + 1) = L.take i ++ [y] := by rw [List.take_add_one, hy]; rfl
      have li := (List.getElem?_eq_some_iff.mp hy).1
      have pl := TR.partL_len (n := n) (mk := mk) (sp := sp) y.1
      refine ⟨_, rfl, y.2, rfl, ⟨_, SqT.of (sm _ _ (hP y hyL))⟩, for_tup (K := K) (a := y.2) (xs := (nI (TR.partL n mk sp y.1)).map V.int) (fun j σ H' => ∃ (v4 : Option V) (E : Ents), σ = [some (.ref l), some (.ref p), some (.ref fo), some (.ref y.2), v4, none] ∧ Same H H' ∧ H' fo = some (.lst (refsE E)) ∧ EntsOk H' E ∧
          E.map (·.1) = (L.take i).flatMap (ent n mk sp) ++ ((TR.partL n mk sp y.1).take j).flatMap (ent1 sp y) ∧ E.length ≤ 82 * i + 2 * j)
        ⟨v4, E, rfl, sm, hfo, hE, by rw [hM]; exact (List.append_nil _).symm, by omega⟩ (fun j σ H' _ ⟨_, _, _, sm, _⟩ => SqT.of (sm _ _ (hP y hyL))) ?_ ?_⟩
      · rintro j z σ H2 hj ⟨v4, E, rfl, sm, hfo, hE, hM, hlen⟩
        have jl := (List.getElem?_eq_some_iff.mp hj).1
        rw [nI_len] at jl
        obtain ⟨kk, hkk⟩ : ∃ kk, (TR.partL n mk sp y.1)[j]? = some kk := ⟨_, List.getElem?_eq_getElem jl⟩
        have ez : z = .int (kk : Int) := Option.some.inj (hj.symm.trans (nI_at hkk))
        subst ez
        have kn := (TR.mem_partL.mp (List.mem_of_getElem? hkk)).1
        obtain ⟨xs, hx, lx, hxs⟩ := (hl.mono sm).get
        obtain ⟨t, t1, t2⟩ := hxs kk kn
        -- told.append((lines[k][0], part))
        refine ⟨_, rfl, .inl ⟨rfl, _, SqL.of hfo⟩, _, rfl, _, rfl, l, _, _, _, rfl, rfl, SqT.of hx, atI_nat t1, t, _, _, _, rfl, rfl, SqT.of t2, rfl, _, rfl, (by show 2 ≤ sizeLine; decide), fun q nq => ?_⟩
        have nfq : fo ≠ q := ne_of_none hfo nq
        have hfo1 : (upd H2 q (.tup [.int (TR.loF sp kk : Int), .ref y.2])) fo = some (.lst (refsE E)) := by rw [upd_ne nfq]; exact hfo
        refine ⟨fo, _, _, rfl, rfl, hfo1, lt_line (by rw [refsE_len]; omega), ?_⟩
        -- told.append((lines[k][1], part))
        have hE1 : EntsOk (upd (upd H2 q (.tup [.int (TR.loF sp kk : Int), .ref y.2])) fo (.lst (refsE (E ++ [((TR.loF sp kk, y), q)])))) (E ++ [((TR.loF sp kk, y), q)]) := fun e he => by
          rcases List.mem_append.mp he with z | z
          · have := hE e z
            rw [upd_ne (ne_of this hfo (by intro z; cases z))]
            exact same_upd nq _ _ this
          · rw [List.mem_singleton.mp z, upd_ne nfq.symm, upd_same]
        have sm1 : Same H (upd (upd H2 q (.tup [.int (TR.loF sp kk : Int), .ref y.2])) fo (.lst (refsE (E ++ [((TR.loF sp kk, y), q)])))) := fun c u e => by
          rw [upd_ne (ne_of_none e nfo)]
          exact same_upd nq _ _ (sm _ _ e)
        have eq1 : refsE E ++ [V.ref q] = refsE (E ++ [((TR.loF sp kk, y), q)]) := by rw [refsE_append]; rfl
        rw [eq1]
        generalize hH3 : upd (upd H2 q (.tup [.int (TR.loF sp kk : Int), .ref y.2])) fo (.lst (refsE (E ++ [((TR.loF sp kk, y), q)]))) = H3 at hE1 sm1
        have hfo3 : H3 fo = some (.lst (refsE (E ++ [((TR.loF sp kk, y), q)]))) := by rw [← hH3, upd_same]
        obtain ⟨xs, hx, lx, hxs⟩ := (hl.mono sm1).get
        obtain ⟨t, t1, t2⟩ := hxs kk kn
        refine ⟨_, rfl, .inl ⟨rfl, _, SqL.of hfo3⟩, _, rfl, _, rfl, l, _, _, _, rfl, rfl, SqT.of hx, atI_nat t1, t, _, _, _, rfl, rfl, SqT.of t2, rfl, _, rfl, (by show 2 ≤ sizeLine; decide), fun q2 nq2 => ?_⟩
        have nfq2 : fo ≠ q2 := ne_of_none hfo3 nq2
        refine ⟨fo, _, _, rfl, rfl, Eq.trans (upd_ne nfq2) hfo3, lt_line (by rw [refsE_len, List.length_append, List.length_singleton]; omega), ?_⟩
        refine ⟨_, (E ++ [((TR.loF sp kk, y), q)]) ++ [((TR.hiF sp kk, y), q2)], rfl, fun c u e => ?_, ?_, fun e he => ?_, ?_, ?_⟩
        · rw [upd_ne (ne_of_none e nfo)]
          exact same_upd nq2 _ _ (sm1 _ _ e)
        · rw [upd_same, refsE_append (E ++ [((TR.loF sp kk, y), q)])]
          rfl
        · rcases List.mem_append.mp he with z | z
          · have := hE1 e z
            rw [upd_ne (ne_of this hfo3 (by intro z; cases z))]
            exact same_upd nq2 _ _ this
          · rw [List.mem_singleton.mp z, upd_ne nfq2.symm, upd_same]
        · rw [List.map_append, List.map_append, hM, List.take_add_one, hkk, List.flatMap_append, List.append_assoc, List.append_assoc]
          rfl
        · rw [List.length_append, List.length_append, List.length_singleton, List.length_singleton]
          omega
      · rintro σ H2 ⟨v4, E, rfl, sm, hfo, hE, hM, hlen⟩
        rw [nI_len] at hM hlen
        rw [List.take_length] at hM
        refine ⟨_, _, E, rfl, sm, hfo, hE, ?_, by omega⟩
        rw [hM, tk, List.flatMap_append]
        show _ = _ ++ (ent n mk sp y ++ [])
        rw [List.append_nil]
        rfl
    · rintro σ H1 ⟨v3, v4, E, rfl, sm, hfo, hE, hM, hlen⟩
      rw [refsL_len, List.take_length] at hM
      have df : E.Pairwise fun e f => e.1.1 ≠ f.1.1 := by
        have := ents_diff D hL
        rwa [← hM, List.pairwise_map] at this
      refine ⟨_, rfl, fo, E.map (·.2), keyOf H1, rfl, ?_, fun t ht => ?_, fun t ht u hu e => ?_, fun us q pm srt nq => ?_⟩
      · rw [List.map_map]
        exact .inl (.inl hfo)
      · obtain ⟨e, e1, rfl⟩ := List.mem_map.mp ht
        exact ⟨e.1.2.2, by rw [keyOf_ent hE e1]; exact hE e e1⟩
      · obtain ⟨a, a1, rfl⟩ := List.mem_map.mp ht
        obtain ⟨b, b1, rfl⟩ := List.mem_map.mp hu
        rw [keyOf_ent hE a1, keyOf_ent hE b1] at e
        rw [diff_inj (f := fun e : (Nat × Nat × Addr) × Addr => e.1.1) df a1 b1 (by omega)]
      · obtain ⟨E', pE, eE⟩ := perm_back pm.symm E rfl
        subst eE
        have hE' : EntsOk H1 E' := fun e he => hE e (pE.mem_iff.mpr he)
        have asc : E'.Pairwise fun e f => e.1.1 ≤ f.1.1 := by
          rw [List.map_map, List.pairwise_map] at srt
          refine srt.imp_of_mem fun {e f} he hf h => ?_
          have h : keyOf H1 e.2 ≤ keyOf H1 f.2 := h
          rw [keyOf_ent hE' he, keyOf_ent hE' hf] at h
          omega
        have rd := round_of_sorted D hL hM pE asc
        have es : (E'.map (·.2)).map V.ref = refsE E' := by
          rw [List.map_map]
          rfl
        rw [es]
        refine ⟨q, rfl, ⟨_, .inl (.inl upd_same)⟩, fun d nd => ?_⟩
        have sq : Same H1 (upd H1 q (.lst (refsE E'))) := same_upd nq
        have hE2 : EntsOk (upd H1 q (.lst (refsE E'))) E' := fun e he => sq _ _ (hE' e he)
        have hq2 : (upd H1 q (.lst (refsE E'))) q = some (.lst (refsE E')) := upd_same
        generalize upd H1 q (.lst (refsE E')) = H2 at sq hE2 hq2 nd ⊢
        have sd : ∀ o, Same H2 (upd H2 d o) := fun o => same_upd nd
        refine lc_list (K := K) (a := q) (xs := refsE E') (fun i H' => H' = upd H2 d (.lst ((E'.take i).map fun e => V.ref e.1.2.2)))
          rfl (fun i H' _ e => by rw [e]; exact .inl (.inl (sd _ _ _ hq2))) ?_ ?_
        · rintro i x H' hi rfl
          unfold refsE at hi
          rw [List.getElem?_map] at hi
          obtain ⟨e, he, rfl⟩ := Option.map_eq_some_iff.mp hi
          have hem : e ∈ E' := List.mem_of_getElem? he
          refine ⟨e.2, _, rfl, SqT.of (sd _ _ _ (hE2 e hem)), rfl, _, _, rfl, _, _, rfl, rfl, rfl, iteT (B := True) ?_⟩
          have l2 := pE.length_eq
          refine ⟨_, rfl, _, upd_same, lt_line (by rw [List.length_map, List.length_take]; rw [refsL_len] at hlen; omega), ?_⟩
          rw [upd_upd, List.take_add_one, he, List.map_append]
          rfl
        · rintro H' rfl
          rw [refsE_len, List.take_length]
          refine k _ d (E'.map (·.1)) ((sm.trans sq).trans (sd _)) ((sm.trans sq).free nd) ?_ rd
          rw [upd_same, List.map_map]
          rfl
end
end TW

/-! W12 -/
/-! {k: v for ..} whose keys are tuples of ints -/
namespace TW
open PySem L2
open PyProof.Rows hiding St RelV
section
variable {X : Cx}
/-- an entry of a dict display or comprehension -/
theorem putT {pins : List (Addr × Obj)} {σ : St} {H : Hp} {s : Shared} {E : Value → Shared → Prop} {D b : Addr} {kvs : List (List Key × V)} {k : List Key} {v : V} {r : Value} {Q : Unit → Shared → Prop} (hu : X.A.units < cLine) (I : Inv X pins σ H s)
    (hD : H D = some (.dT kvs)) (hb : H b = some (.tup (k.map kV))) (small : kvs.length < sizeLine) (rv : RelV v r) (go : ∀ s', Inv X pins σ (upd H D (.dT (putK kvs k v))) s' → Q () s') :
    wpAny (model X.prog X.w) X.A (dictSet D (.ref b) r) Q E s := by
  obtain ⟨z, hsys, xs, rel, dd⟩ := dt_of I.hok hD
  have few : xs.length ≤ sizeLine := Nat.le_trans (Nat.le_of_eq (Paired.length rel).symm) z
  have grown : (putK kvs k v).length ≤ sizeLine := Nat.le_trans (length_putK kvs k v) small
  refine wpAny_dictSet_heap (knd := tupleKind (mixKind X.prog X.w)) (hsz := few) (show X.A.units < cLine from hu) (key_of I.hok hb) dd fun h' dd' sb => go _ ?_
  obtain ⟨o, es, ep, ho, a2, a3, a4, _, a6⟩ := dd'
  have kept : KT (upd H D (.dT (putK kvs k v))) (putK kvs k v) (storedH xs k b r) := (rel.put k hb rv).keeps fun c ys ec => Eq.trans (upd_ne (ne_of ec hD fun z => nomatch z)) ec
  exact d_write I (by rw [hD]; exact True.intro) sb ⟨o, ho⟩ ⟨grown, hsys, _, kept, o, es, ep, ho, a2, a3, a4, a6⟩
/-- a turn: from the item x at H to N of the heap behind the entry -/
abbrev DtTurn (g : TG) (tt : TT) (tk tv : TE) (vs : List Nat) (σ : St) (D : Addr) (x : V) (H : Hp) (N : Hp → Prop) : Prop :=
  g x (wipe σ vs) H fun σ2 H2 => wipe σ2 vs = wipe σ vs ∧ tt σ2 H2 fun b H3 =>
    if b = true then tk σ2 H3 fun y H4 => tv σ2 H4 fun z H5 => ∃ kvs k t, y = .ref t ∧ H5 D = some (.dT kvs) ∧ H5 t = some (.tup (k.map kV)) ∧ kvs.length < sizeLine ∧ N (upd H5 D (.dT (putK kvs k z))) else N H3
def tDt (wi : TI) (g : TG) (tt : TT) (tk tv : TE) (vs : List Nat) : TE := fun σ H Q => wi σ H fun J H1 => ∀ D, H1 D = none → ∃ W : Nat → Nat → Hp → Prop, (∃ m, W 0 m (upd H1 D (.dT []))) ∧ ∀ i m H, W i m H →
  (J.stop i H ∧ Q (.ref D) H) ∨ (J.go i H ∧ ∃ Nx : Hp → Prop, (∀ H', Nx H' → ∃ m', m' < m ∧ W (i + 1) m' H') ∧ ∀ x H', J.yld i H x H' → DtTurn g tt tk tv vs σ D x H' Nx)
theorem run_dt {pins : List (Addr × Obj)} {s : Shared} {σ : St} {H : Hp} {Q : VK} {kx vx tg iter : Expr} {ifs : List Expr} {scope : Scope} {own : List (Str × Nat)} {pos pos' : Pos} {wi : TI} {g : TG} {tt : TT} {tk tv : TE} {use : Option (Value → Sem Unit)}
    {Qf : Value → Shared → Prop} (hu : X.A.units < cLine) (hc : X.calm = true) (nd : X.N.Nodup) (I : Inv X pins σ H s) (a : DcArgs X kx vx tg iter ifs scope own wi g tt tk tv) (h : tDt wi g tt tk tv (own.map (·.2)) σ H Q)
    (behind : ∀ D C s' m H', Inv X pins σ H' s' → Q (.ref D) H' → s'.heap.Ns C m → FpOk X pins H' C → compPost (model X.prog X.w) X.A X.xe use Qf (.ref D) C (.ok .next) s') :
    wpAny (model X.prog X.w) X.A (comprehension (.DictComp kx vx [⟨tg, iter, ifs, 0⟩] scope pos) scope X.env pos' newDict false (eval iter X.env) use) Qf X.xe s := by
  have caught : ∀ y ∈ scope.names, y.2 = .free → ∃ c, X.env.cells.lookup y.1 = some c := fun y hy e => (a.ok.free y hy e).elim (fun k => I.ok.has _ (.inl k)) fun k => I.ok.has _ (.inr k)
  refine wpAny_comprehension_free (use := use) rfl a.fs (closure_ok caught) a.ok.kind (fun y hy e => by rw [a.ok.uniq y hy, e]) ?_
  refine thn (a.wk.run pins s σ H _ I h) fun xv s1 hx => thn hx fun itv s2 h2 => ?_
  obtain ⟨it, fp, tn, J, H2, rfl, I2, T, st2, f2, q⟩ := h2
  refine wpAny_newObj_type (newEnv_comp ?_)
  generalize hD : s2.heap.objs.size = D
  have freeD : H2 D = none := I2.hok.fresh (Nat.le_of_eq hD)
  obtain ⟨W, ⟨m0, w0⟩, turn⟩ := q D freeD
  generalize hs3 : ({ s2 with heap := s2.heap.push { cls := .type "dict", data := .dict #[] } } : Shared) = s3
  have I3 : Inv X pins σ (upd H2 D (.dT [])) s3 := by
    rw [← hs3]
    refine I2.laid (t' := s2.toks) (fun b o e => Heap.get?_push_of_some _ e) (Nat.le_of_eq hD) ?_
    rw [← hD]
    exact dt_empty s2.heap I2.big
  have heap3 : s3.heap = s2.heap.push { cls := .type "dict", data := .dict #[] } := by rw [← hs3]
  have below : ∀ b ∈ fp, b < s2.heap.objs.size := fun b hb => (T.obj _ _ st2 b hb).elim fun o eo => Heap.lt_size eo.1
  have f3 : ∀ b ∈ fp, FpOk X pins (upd H2 D (.dT [])) b ∧ b < s3.heap.objs.size := fun b hb => by
    have lt := below b hb
    have ne : b ≠ D := by rw [← hD]; exact Nat.ne_of_lt lt
    exact ⟨⟨by rw [upd_ne ne]; exact (f2 b hb).1, (f2 b hb).2⟩, by rw [heap3, Heap.size_push]; exact Nat.lt_succ_of_lt lt⟩
  have st3 : tn 0 s3.heap := T.keep _ _ _ st2 fun b _ o e => by rw [heap3]; exact Heap.get?_push_of_some _ e
  have I4 := block_start I3 a.ok nd f3
  let cel := cellsFrom (s3.heap.objs.size + 1) scope.names (cloFrom X.env.cells scope.names [])
  have pg := a.g s3 (upd H2 D (.dT [])) s3.heap.objs.size cel fp
  have pt := a.t s3 (upd H2 D (.dT [])) s3.heap.objs.size cel fp
  have pk := a.k s3 (upd H2 D (.dT [])) s3.heap.objs.size cel fp
  have pe := a.v s3 (upd H2 D (.dT [])) s3.heap.objs.size cel fp
  show codeAny _ _ (.compStart (.DictComp kx vx [⟨tg, iter, ifs, 0⟩] scope pos) 0 (.ref it) (.ref D) (compEnvC scope cel s3.heap.objs.size X.env)) (compPost (model X.prog X.w) X.A X.xe use Qf (.ref D) s3.heap.objs.size)
    { s3 with heap := pushCells (s3.heap.push { cls := .type "dict", data := .dict #[] }) scope.names }
  have free3 : ∀ b ∈ fp, (upd H2 D (.dT [])) b = none := fun b hb => (f3 b hb).1.1
  have I4' : Inv (X.blk s3 (upd H2 D (.dT [])) scope (compEnvC scope cel s3.heap.objs.size X.env) fp) [] (wipe σ (own.map (·.2))) (upd H2 D (.dT [])) { s3 with heap := pushCells (s3.heap.push { cls := .type "dict", data := .dict #[] }) scope.names } := I4
  clear I4
  generalize hce : compEnvC scope cel s3.heap.objs.size X.env = ce at I4' pg pt pk pe ⊢
  have celL : ce.locals = s3.heap.objs.size := by subst hce; rfl
  generalize hH3 : upd H2 D (.dT []) = H3 at I3 I4' pg pt pk pe w0 free3 f3
  generalize hs4 : ({ s3 with heap := pushCells (s3.heap.push { cls := .type "dict", data := .dict #[] }) scope.names } : Shared) = s4 at I4' ⊢
  have st4 : tn 0 s4.heap := T.keep _ _ _ st3 fun b _ o e => by rw [← hs4]; exact pushCells_keeps _ _ _ _ (Heap.get?_push_of_some _ e)
  have okF : ∀ {σ' : St} {H' : Hp} {s' : Shared}, Inv (X.blk s3 H3 scope ce fp) [] σ' H' s' → (∀ b ∈ fp, H' b = none) → ∀ b ∈ fp, FpOk (X.blk s3 H3 scope ce fp) [] H' b := fun {σ' H' s'} I' hn b hb =>
    ⟨hn b hb, (I'.ok.exf b hb).1, I'.ok.exfs b hb, .inl hb, fun x c e => (I'.ok.exf b hb).2 x c e, fun p hp => absurd (show p ∈ ([] : List (Addr × Obj)) ++ [] from hp) (by simp)⟩
  have loop : codeAny (model X.prog X.w) X.A (.compLoop (.DictComp kx vx [⟨tg, iter, ifs, 0⟩] scope pos) 0 (.ref it) (.ref D) ce) (compPost (model X.prog X.w) X.A X.xe use Qf (.ref D) s3.heap.objs.size) s4 := by
    refine compLoop_anyD (fun n s' => ∃ i H', Inv (X.blk s3 H3 scope ce fp) [] (wipe σ (own.map (·.2))) H' s' ∧ tn i s'.heap ∧ (∀ b ∈ fp, H' b = none) ∧ W i n H') (fun n s5 hI => ?_) m0 ⟨0, H3, I4', st4, free3, w0⟩
    obtain ⟨i, H5, I5, st5, n5, w5⟩ := hI
    rcases turn i n H5 w5 with ⟨stop, fin⟩ | ⟨go, Nx, less, step⟩
    · refine thnF (T.done (X.blk s3 H3 scope ce fp) rfl rfl rfl hc i [] s5 _ H5 (fun _ _ => False) I5 (okF I5 n5) st5 stop) fun r s6 z => ?_
      obtain ⟨rfl, I6⟩ := z
      have I7 : Inv X pins σ H5 s6 := I3.call' (ch := fp) I6.os I6.base I6.hok I6.bare fun b hb => ⟨(f3 b hb).1.2.2.2.1, (f3 b hb).1.2.1, (f3 b hb).1.2.2.2.2.1, (f3 b hb).1.2.2.2.2.2⟩
      have noC : H5 s3.heap.objs.size = none := by
        rw [← celL]
        exact I6.free
      obtain ⟨m, hn, _⟩ := I6.loc
      exact behind D s3.heap.objs.size s6 m H5 I7 fin (by rw [← celL]; exact hn) (I3.fpOk (Nat.le_refl _) noC)
    · refine thnF (T.item (X.blk s3 H3 scope ce fp) rfl rfl rfl hc i [] s5 _ H5 (fun _ _ => False) I5 (okF I5 n5) st5 go) fun r s6 z => ?_
      obtain ⟨u, rfl, h6⟩ := z
      refine thnF h6 fun _ s7 z => ?_
      obtain ⟨x, H7, I7, r7, y7, st7, n7⟩ := z
      have I7' := I7.pinned (okF I7 n7) (T.obj _ _ st7)
      refine thnF (pg.run _ s7 _ H7 x u _ I7' r7 (step x H7 y7)) fun _ s8 z => ?_
      obtain ⟨σ8, H8, I8, hw8, q8⟩ := z
      refine thnF (pt.run _ s8 σ8 H8 _ I8 q8) fun b s9 z => ?_
      obtain ⟨H9, I9, q9⟩ := z
      -- what holds behind the turn
      have close : ∀ {s' : Shared} {H' : Hp}, Inv (X.blk s3 H3 scope ce fp) ([] ++ pinsAt fp s7.heap) σ8 H' s' → Nx H' →
          ∃ m, m < n ∧ ∃ i H', Inv (X.blk s3 H3 scope ce fp) [] (wipe σ (own.map (·.2))) H' s' ∧ tn i s'.heap ∧ (∀ b ∈ fp, H' b = none) ∧ W i m H' := fun {s' H'} I' nx => by
        obtain ⟨m', hm, w'⟩ := less H' nx
        have pinned : ∀ b ∈ fp, ∀ o, s7.heap.get? b = some o → s'.heap.get? b = some o ∧ H' b = none := fun b hb o e => by
          have z := I'.pin (b, o) (List.mem_append_right _ (List.mem_append_right _ (mem_pinsAt hb e)))
          exact ⟨z.1, z.2.1⟩
        refine ⟨m', hm, i + 1, H', (I'.unpinned (pins := [])).weak (by rw [← hw8, wipe_length]) (fun j v e => (wipe_some (by rw [hw8]; exact e)).1), T.keep _ _ _ st7 fun b hb o e => (pinned b hb o e).1, fun b hb => ?_, w'⟩
        obtain ⟨o, e, _⟩ := T.obj _ _ st7 b hb
        exact (pinned b hb o e).2
      cases b with
      | false =>
        simp only [Bool.false_eq_true, if_false] at q9 ⊢
        exact close I9 q9
      | true =>
        simp only [if_true] at q9 ⊢
        refine thnF (pk.run _ s9 σ8 H9 _ I9 q9) fun z s10 w10 => ?_
        obtain ⟨yk, H10, I10, r10, q10⟩ := w10
        refine thnF (pe.run _ s10 σ8 H10 _ I10 q10) fun z2 s11 w11 => ?_
        obtain ⟨yv, H11, I11, r11, kvs, k, t, rfl, hD11, ht11, small, nx⟩ := w11
        obtain rfl : z = Value.ref t := r10
        exact putT (X := X.blk s3 H3 scope ce fp) hu I11 hD11 ht11 small r11 fun s12 I12 => close I12 nx
  exact codeAny_compStart_dict loop (T.self X.A 0 _ _ _ st4 loop)
theorem pe_dt {kx vx tg iter : Expr} {ifs : List Expr} {scope : Scope} {own : List (Str × Nat)} {pos : Pos} {wi : TI} {g : TG} {tt : TT} {tk tv : TE} (hu : X.A.units < cLine) (hc : X.calm = true) (nd : X.N.Nodup) (a : DcArgs X kx vx tg iter ifs scope own wi g tt tk tv) :
    PE X (.DictComp kx vx [⟨tg, iter, ifs, 0⟩] scope pos) (tDt wi g tt tk tv (own.map (·.2))) := ⟨fun pins s σ H Q I h => by
  rw [arm_eval_DictComp]
  refine run_dt hu hc nd I a h fun D C s' m H' I' q hn fo => ⟨m, hn, fun h2 sb => ?_⟩
  obtain ⟨f0, f1, f2, f3, f4, f5⟩ := fo
  exact ⟨.ref D, H', I'.turned (t' := s'.toks) (fun b o hb e => (sb.2 b hb).trans e) f0 f1 f3 f4 f5, rfl, q⟩⟩
/-- over a tuple -/
theorem dt_tup {K : PySem.W.Frag} {a : Addr} {xs : List V} {g : TG} {tt : TT} {tk tv : TE} {vs : List Nat} {σ : St} {H1 : Hp} {D : Addr} {Qd : Hp → Prop} (Pv : Nat → Hp → Prop) (h0 : Pv 0 (upd H1 D (.dT []))) (src : ∀ i H, Pv i H → SqT K H a xs)
    (hs : ∀ i x H, xs[i]? = some x → Pv i H → DtTurn g tt tk tv vs σ D x H (Pv (i + 1))) (hd : ∀ H, Pv xs.length H → Qd H) :
    ∃ W : Nat → Nat → Hp → Prop, (∃ m, W 0 m (upd H1 D (.dT []))) ∧ ∀ i m H, W i m H → ((Itt K a).stop i H ∧ Qd H) ∨ ((Itt K a).go i H ∧ ∃ Nx : Hp → Prop, (∀ H', Nx H' → ∃ m', m' < m ∧ W (i + 1) m' H') ∧
      ∀ x H', (Itt K a).yld i H x H' → DtTurn g tt tk tv vs σ D x H' Nx) := by
  refine ⟨fun i m H => m + i = xs.length ∧ Pv i H, ⟨xs.length, Nat.add_zero _, h0⟩, fun i m H h => ?_⟩
  obtain ⟨em, p⟩ := h
  have q := src i H p
  by_cases lt : i < xs.length
  · have at_ : xs[i]? = some xs[i] := List.getElem?_eq_getElem lt
    refine .inr ⟨⟨xs, xs[i], q, at_⟩, Pv (i + 1), fun H' hN => ⟨m - 1, by omega, by omega, hN⟩, fun x H' hy => ?_⟩
    obtain ⟨eH, hx⟩ := hy
    subst eH
    exact hs i x _ (hx xs q) p
  · have e : i = xs.length := by omega
    subst e
    exact .inl ⟨⟨xs, q, Nat.le_refl _⟩, hd H p⟩
end
end TW

/-! W13 -/
namespace TW
open PySem L2
section
variable {P : Program} {w : World} {K : PySem.W.Frag} {mg : Str → Option Value} {base : Heap}
noncomputable def keyP (n : Nat) (mk sp : Nat → Nat) (k : Nat) : List Key := (nI (TR.partL n mk sp k)).map Sum.inl
theorem keyP_kV (n : Nat) (mk sp : Nat → Nat) (k : Nat) : (keyP n mk sp k).map kV = (nI (TR.partL n mk sp k)).map V.int := by
  unfold keyP
  rw [List.map_map]
  rfl
theorem keyP_at {n : Nat} {mk sp : Nat → Nat} {k : Nat} {H : Hp} {t : Addr} (h : H t = some (partO n mk sp k)) : H t = some (.tup ((keyP n mk sp k).map kV)) := by
  rw [keyP_kV]
  exact h
theorem keyP_inj {n : Nat} {mk sp : Nat → Nat} (D : TR.Dr n mk sp) {k l : Nat} (hk : TR.Rep n mk sp k) (hl : TR.Rep n mk sp l) (e : keyP n mk sp k = keyP n mk sp l) : k = l := by
  have := congrArg (List.map kV) e
  rw [keyP_kV, keyP_kV] at this
  have inj : ∀ a b : List Int, a.map V.int = b.map V.int → a = b := fun a b q => (List.map_inj_right fun x y z => V.int.inj z).mp q
  exact TR.partL_inj D hk hl (nI_inj (inj _ _ this))
theorem atI_prev {α : Type} {xs : List α} {i : Nat} {v : α} (hi : i < xs.length) (h : xs[if i = 0 then xs.length - 1 else i - 1]? = some v) : atI xs ((i : Int) - 1) = some v := by
  unfold atI ixN
  by_cases e : i = 0
  · subst e
    rw [if_pos rfl] at h
    rw [if_neg (by omega), if_pos (by omega), show ((0 : Nat) : Int) - 1 + (xs.length : Int) = ((xs.length - 1 : Nat) : Int) by omega]
    exact h
  · rw [if_neg e] at h
    rw [if_pos (by omega), if_pos (by omega), show (i : Int) - 1 = ((i - 1 : Nat) : Int) by omega]
    exact h
abbrev Rnd := List (Nat × Nat × Addr)
def colM (M : Rnd) (i : Nat) : Nat := (M[i]?.map fun (e : Nat × Nat × Addr) => e.2.1).getD 0
def sptM (M : Rnd) (i : Nat) : Nat := (M[i]?.map fun (e : Nat × Nat × Addr) => e.1).getD 0
theorem colM_at {M : Rnd} {i : Nat} {e : Nat × Nat × Addr} (h : M[i]? = some e) : colM M i = e.2.1 := by
  unfold colM
  rw [h]
  rfl
theorem sptM_at {M : Rnd} {i : Nat} {e : Nat × Nat × Addr} (h : M[i]? = some e) : sptM M i = e.1 := by
  unfold sptM
  rw [h]
  rfl
def prvM (M : Rnd) (i : Nat) : Nat := if i = 0 then M.length - 1 else i - 1
open Classical in
noncomputable def cntM (M : Rnd) (i k : Nat) : Nat := ((List.range i).filter fun j => decide (colM M j ≠ colM M (if j = 0 then M.length - 1 else j - 1) ∧ colM M j = k)).length
open Classical in
theorem cntM_succ (M : Rnd) (i k : Nat) : cntM M (i + 1) k = cntM M i k + (if colM M i ≠ colM M (prvM M i) ∧ colM M i = k then 1 else 0) := by
  unfold cntM prvM
  rw [List.range_succ, List.filter_append, List.length_append]
  by_cases h : colM M i ≠ colM M (if i = 0 then M.length - 1 else i - 1) ∧ colM M i = k
  · rw [if_pos h, List.filter_cons_of_pos (p := fun j => decide (colM M j ≠ colM M (if j = 0 then M.length - 1 else j - 1) ∧ colM M j = k)) (decide_eq_true h)]
    rfl
  · rw [if_neg h, List.filter_cons_of_neg (p := fun j => decide (colM M j ≠ colM M (if j = 0 then M.length - 1 else j - 1) ∧ colM M j = k)) (fun q => h (of_decide_eq_true q))]
    rfl
theorem runsM {n : Nat} {mk sp : Nat → Nat} (D : TR.Dr n mk sp) {L : List (Nat × Addr)} {M : Rnd} (hL : PsL n mk sp L) (h : RoundOk n mk sp L M) {x : Nat × Addr} (hx : x ∈ L) : cntM M M.length x.1 ≤ 1 ↔ TR.isH (TR.sepN n mk sp) (L.map (·.1)) x.1 := by
  have at_ : ∀ i, i < M.length → ∃ e, M[i]? = some e ∧ e ∈ M := fun i hi => ⟨_, List.getElem?_eq_getElem hi, List.getElem_mem hi⟩
  refine TR.runs (r := M.length) (colM M) (sptM M) (L.map (·.1)) D (fun k hk => ?_) (fun i j ij hj => ?_) (fun i hi => ?_) (fun k hk s hs => ?_) (List.mem_map.mpr ⟨x, hx, rfl⟩)
  · obtain ⟨y, y1, rfl⟩ := List.mem_map.mp hk
    exact hL.rep y y1
  · have a := h.asc
    rw [List.pairwise_map, List.pairwise_iff_getElem] at a
    have := a i j (by omega) hj ij
    rw [sptM_at (List.getElem?_eq_getElem (by omega : i < M.length)), sptM_at (List.getElem?_eq_getElem hj)]
    exact this
  · obtain ⟨e, e1, e2⟩ := at_ i hi
    obtain ⟨a, b, c⟩ := (h.mem e).mp e2
    rw [colM_at e1, sptM_at e1]
    exact ⟨List.mem_map.mpr ⟨e.2, a, rfl⟩, b, c⟩
  · obtain ⟨y, y1, rfl⟩ := List.mem_map.mp hk
    have hb := hs.lt D (TR.cl_lt D (hL.rep y y1).1)
    have hm : (s, y) ∈ M := (h.mem (s, y)).mpr ⟨y1, hb, hs⟩
    obtain ⟨i, hi⟩ := List.mem_iff_getElem?.mp hm
    exact ⟨i, (List.getElem?_eq_some_iff.mp hi).1, colM_at hi, sptM_at hi⟩
open Classical in
noncomputable def hB (n : Nat) (mk sp : Nat → Nat) (S : List Nat) (k : Nat) : Bool := decide (TR.isH (TR.sepN n mk sp) S k)
open Classical in
theorem hB_iff {n : Nat} {mk sp : Nat → Nat} {S : List Nat} {k : Nat} : hB n mk sp S k = true ↔ TR.isH (TR.sepN n mk sp) S k := decide_eq_true_iff
/-- the hurdles among some parts -/
noncomputable def hurL (n : Nat) (mk sp : Nat → Nat) (L : List (Nat × Addr)) : List (Nat × Addr) := L.filter fun x => hB n mk sp (L.map (·.1)) x.1
/-- the dict of how often each part has begun -/
def CntD (n : Nat) (mk sp : Nat → Nat) (L : List (Nat × Addr)) (b : Nat) (F : Nat → Nat) (kvs : List (List Key × V)) : Prop := kvs.length ≤ b ∧ ∀ x, x ∈ L → valV kvs (keyP n mk sp x.1) = some (.int (F x.1 : Int))
theorem CntD.put {n : Nat} {mk sp : Nat → Nat} (D : TR.Dr n mk sp) {L : List (Nat × Addr)} (hL : PsL n mk sp L) {b : Nat} {F G : Nat → Nat} {kvs : List (List Key × V)} (h : CntD n mk sp L b F kvs) {y : Nat × Addr} (hy : y ∈ L) {v : Int} (e1 : v = (G y.1 : Int)) (e2 : ∀ x, x ∈ L → x.1 ≠ y.1 → G x.1 = F x.1) :
    CntD n mk sp L (b + 1) G (putK kvs (keyP n mk sp y.1) (.int v)) := by
  refine ⟨Nat.le_trans (length_putK _ _ _) (Nat.succ_le_succ h.1), fun x hx => ?_⟩
  rw [valV_put]
  by_cases e : x.1 = y.1
  · rw [e, if_pos rfl, e1]
  · rw [if_neg fun q => e (keyP_inj D (hL.rep x hx) (hL.rep y hy) q), h.2 x hx, e2 x hx e]
abbrev sAmong : Stmt := top 25
theorem scAmong : FnScope ["lines", "some", "told", "begun", "at", "part"] ["lines", "some"] (defScope sAmong) := ⟨rfl, rfl, rfl, by decide +kernel, rfl, by decide +kernel, by decide +kernel⟩
def spAmong : Sp := fun vs H Q _ => ∃ (l p : Addr) (n : Nat) (mk sp : Nat → Nat) (L : List (Nat × Addr)), vs = [.ref l, .ref p] ∧ LinesAt n sp H l ∧ TR.Dr n mk sp ∧ n ≤ 40 ∧ H p = some (.tup (refsL L)) ∧ PtsOk n mk sp H L ∧ PsL n mk sp L ∧
  ∀ H' q, Same H H' → H q = none → H' q = some (.tup (refsL (hurL n mk sp L))) → Q (.ref q) H'
theorem ok_among {f fR : Addr} {fd fdR : FuncData} (T : Bt mg) (F : Fun K "hurdles_among" "hurdles_among" sAmong f fd) (GR : FnOk P w K mg base CX0 1 fR fdR ["lines", "some"] spRound) (kR : PySem.W.keepIn K (.ref fR) = true) (bR : Binds K fdR ["lines", "some"] []) (gR : mg "round_of" = some (.ref fR)) :
    FnOk P w K mg base CX0 2 f fd ["lines", "some"] spAmong := by
  refine F.ok scAmong (fun vs H Q E h => ?_) (fun cdv A outer s H vs Q E hr h => ?_)
  · obtain ⟨l, p, n, mk, sp, L, rfl, _⟩ := h
    rfl
  · obtain ⟨l, p, n, mk, sp, L, rfl, hl, D, hn, hp, hP, hL, k⟩ := h
    have lL := hL.len
    have hu := hu_of hr
    refine ⟨_, pss_cons (ps_set (i := 2) scAmong.nd rfl (Or.inl rfl) (pe_call GR hr (by rfl) gR kR bR .nil pass0 (pa_cons (pv 0) (pa_cons (pv 1) pa_nil))))
      (pss_cons (ps_set (i := 3) scAmong.nd rfl (Or.inr rfl) (pe_dt (own := [("part", 5)]) (g := gName 5) (Nat.lt_of_succ_lt hu) rfl scAmong.nd
        ⟨pi_tup (pv 1), blkOk_by (own := [("part", 5)]) (N := ["lines", "some", "told", "begun", "at", "part"]) (sc := defScope sAmong) (by decide +kernel), fun _ _ _ _ _ => pg_name (i := 5) scAmong.nd rfl (Or.inl rfl), fun _ _ _ _ _ => pts_nil,
          fun _ _ _ _ _ => pv 5, fun _ _ _ _ _ => pe_int, by intro _; rfl⟩))
      (pss_cons (ps_for PassesOwn.never rfl (pi_range1 rfl T.range (pa_cons (pe_callB call_len_seq (by rfl) T.len PySem.boot_len (pa_cons (pv 2) pa_nil)) pa_nil)) (pg_name (i := 4) scAmong.nd rfl (Or.inl rfl))
        (pss_one (ps_if (pt_cmpR (op_neD (hu64 hr)) (pe_ix ix_list (pv 2) (pv 4) (fun _ _ => rfl)) (pe_ix ix_list (pv 2) (pe_op op_sub (pv 4) pe_int) (fun _ _ => rfl)) (nomark _))
          (pss_one (ps_daug hu (pv 3) (pe_ix ix_list (pv 2) (pv 4) (fun _ _ => rfl)) pe_int in_add (fun _ _ _ => rfl))) pss_nil)))
      (pss_one (ps_ret (pe_callTy call_tuple_of (by rfl) T.tuple (by decide +kernel) (pa_cons (pe_lc (own := [("part", 5)]) (g := gName 5) (by rfl) scAmong.nd (pi_tup (pv 1))
          (blkOk_by (own := [("part", 5)]) (N := ["lines", "some", "told", "begun", "at", "part"]) (sc := defScope sAmong) (by decide +kernel)) (fun _ _ _ _ _ => pg_name (i := 5) scAmong.nd rfl (Or.inl rfl))
          (fun _ _ _ _ _ => pts_one (pt_cmpR op_le (pe_dget hu (pv 3) (pv 5) (fun _ _ => rfl)) pe_int (nomark _))) (fun _ _ _ _ _ => pv 5)) pa_nil)))))), ?_⟩
    refine ⟨_, rfl, _, rfl, l, p, n, mk, sp, L, rfl, hl, D, hn, hp, hP, hL, fun H1 r M s1 nr hr1 hM => ?_⟩
    have lM : M.length ≤ 2 * n + 2 := by
      have nd : (M.map (·.1)).Nodup := hM.asc.imp fun h => Nat.ne_of_lt h
      have := TR.sub_len (M.map (·.1)) (List.range (2 * n + 2)) nd fun s hs => by
        obtain ⟨e, e1, rfl⟩ := List.mem_map.mp hs
        exact List.mem_range.mpr ((hM.mem e).mp e1).2.1
      rwa [List.length_map, List.length_range] at this
    refine ⟨_, rfl, p, rfl, ⟨_, SqT.of (s1 _ _ hp)⟩, fun d nd => ?_⟩
    have nd0 := s1.free nd
    have sd : ∀ o, Same H1 (upd H1 d o) := fun o => same_upd nd
    have hP1 := hP.mono s1
    refine dt_tup (K := K) (a := p) (xs := refsL L) (fun i H' => ∃ kvs, H' = upd H1 d (.dT kvs) ∧ CntD n mk sp (L.take i) i (fun _ => 0) kvs)
      ⟨[], rfl, Nat.zero_le _, fun x hx => absurd hx List.not_mem_nil⟩ (fun i H' ⟨kvs, e, _⟩ => by rw [e]; exact SqT.of (sd _ _ _ (s1 _ _ hp))) ?_ ?_
    · rintro i x H' hi ⟨kvs, rfl, hC⟩
      obtain ⟨y, hy, rfl⟩ := refsL_at hi
      have hyL : y ∈ L := List.mem_of_getElem? hy
      have li := (List.getElem?_eq_some_iff.mp hy).1
      have tk : L.take (i + 1) = L.take i ++ [y] := by rw [List.take_add_one, hy]; rfl
      refine ⟨rfl, iteT (B := True) ?_⟩
      refine ⟨_, rfl, kvs, keyP n mk sp y.1, y.2, rfl, upd_same, sd _ _ _ (keyP_at (hP1 y hyL)), lt_line (by have := hC.1; omega), _, upd_upd, Nat.le_trans (length_putK _ _ _) (Nat.succ_le_succ hC.1), fun x hx => ?_⟩
      rw [valV_put]
      by_cases e : keyP n mk sp x.1 = keyP n mk sp y.1
      · rw [if_pos e]
        rfl
      · rw [if_neg e]
        rw [tk] at hx
        rcases List.mem_append.mp hx with q | q
        · exact hC.2 x q
        · exact absurd (by rw [List.mem_singleton.mp q]) e
    · rintro H' ⟨kvs, rfl, hC⟩
      rw [refsL_len, List.take_length] at hC
      have hr2 := sd (.dT kvs) _ _ hr1
      refine ⟨_, rfl, r, _, rfl, .inl (.inl (.inl hr2)), ?_⟩
      rw [List.length_map]
      refine ⟨_, rfl, by omega, by omega, ?_⟩
      rw [show ((M.length : Nat) : Int).toNat = M.length from Int.toNat_natCast _]
      refine for_range (lo := 0) (n := M.length) (fun i σ H' => ∃ (v4 : Option V) (kvs : List (List Key × V)), σ = [some (.ref l), some (.ref p), some (.ref r), some (.ref d), v4, none] ∧ H' = upd H1 d (.dT kvs) ∧ CntD n mk sp L (L.length + i) (cntM M i) kvs)
        ⟨none, kvs, rfl, rfl, hC⟩ ?_ ?_
      · rintro i σ H' hi ⟨v4, kvs, rfl, rfl, hC⟩
        have e0 : (0 : Int) + (i : Int) = (i : Int) := by omega
        rw [e0]
        have hr2 := sd (.dT kvs) _ _ hr1
        obtain ⟨e, he⟩ : ∃ e, M[i]? = some e := ⟨_, List.getElem?_eq_getElem hi⟩
        have hpi : prvM M i < M.length := by unfold prvM; split <;> omega
        obtain ⟨e', he'⟩ : ∃ e', M[prvM M i]? = some e' := ⟨_, List.getElem?_eq_getElem hpi⟩
        have heL := ((hM.mem e).mp (List.mem_of_getElem? he)).1
        have heL' := ((hM.mem e').mp (List.mem_of_getElem? he')).1
        have a1 : (M.map fun (e : Nat × Nat × Addr) => V.ref e.2.2)[i]? = some (.ref e.2.2) := by rw [List.getElem?_map, he]; rfl
        have a2 : (M.map fun (e : Nat × Nat × Addr) => V.ref e.2.2)[if i = 0 then (M.map fun (e : Nat × Nat × Addr) => V.ref e.2.2).length - 1 else i - 1]? = some (.ref e'.2.2) := by
          rw [List.length_map, List.getElem?_map]
          unfold prvM at he'
          rw [he']
          rfl
        have c1 := colM_at he
        have c2 := colM_at he'
        have hk1 : (upd H1 d (.dT kvs)) e.2.2 = some (partO n mk sp e.2.1) := sd _ _ _ (hP1 _ heL)
        have hk2 : (upd H1 d (.dT kvs)) e'.2.2 = some (partO n mk sp e'.2.1) := sd _ _ _ (hP1 _ heL')
        refine ⟨_, rfl, _, rfl, r, _, _, _, rfl, rfl, .inl (.inl hr2), atI_nat a1, ?_⟩
        refine ⟨_, rfl, _, rfl, _, _, rfl, rfl, r, _, _, _, rfl, rfl, .inl (.inl hr2), atI_prev (by rw [List.length_map]; exact hi) a2, ?_⟩
        refine ⟨_, _, .tup (SqT.of hk1) (dp_ints K _ _), .tup (SqT.of hk2) (dp_ints K _ _), ints_shT _, ints_shT _, ?_⟩
        rw [eqvT]
        refine ⟨_, rfl, ?_⟩
        by_cases eq : e.2.1 = e'.2.1
        · rw [eq, decide_eq_true rfl]
          refine iteF ⟨_, kvs, rfl, rfl, by have := hC.1; omega, fun x hx => ?_⟩
          rw [hC.2 x hx, cntM_succ, if_neg (fun q => q.1 (by rw [c1, c2, eq]))]
          rfl
        · have ne : decide (nI (TR.partL n mk sp e.2.1) = nI (TR.partL n mk sp e'.2.1)) = false := decide_eq_false fun q => eq (TR.partL_inj D (hL.rep _ heL) (hL.rep _ heL') (nI_inj q))
          rw [ne]
          refine iteT (B := True) ?_
          refine ⟨_, rfl, _, rfl, _, rfl, r, _, _, _, rfl, rfl, .inl (.inl hr2), atI_nat a1, d, .int (cntM M i e.2.1 : Int), rfl, .inr ⟨kvs, keyP n mk sp e.2.1, e.2.2, .inl upd_same, rfl, keyP_at hk1, (hC.2 e.2 heL).symm⟩, ?_⟩
          refine ⟨_, _, rfl, rfl, _, DPut.t (k := keyP n mk sp e.2.1) upd_same (keyP_at hk1) (lt_line (by have := hC.1; omega)), ?_⟩
          rw [upd_upd]
          refine ⟨_, _, rfl, rfl, hC.put D hL heL ?_ fun x hx ne2 => ?_⟩
          · rw [cntM_succ, if_pos ⟨by rw [c1, c2]; exact eq, c1⟩]
            omega
          · rw [cntM_succ, if_neg (fun q => ne2 (by rw [← q.2, c1])), Nat.add_zero]
      · rintro σ H' ⟨v4, kvs, rfl, rfl, hC⟩
        refine ⟨_, rfl, p, rfl, ⟨_, SqT.of (sd _ _ _ (s1 _ _ hp))⟩, fun o no => ?_⟩
        have so : ∀ u, Same (upd H1 d (.dT kvs)) (upd (upd H1 d (.dT kvs)) o u) := fun u => same_upd no
        have s01 : Same H (upd H1 d (.dT kvs)) := s1.trans (sd _)
        have hd1 : (upd H1 d (.dT kvs)) d = some (.dT kvs) := upd_same
        have hPd := hP.mono s01
        generalize upd H1 d (.dT kvs) = H2 at so s01 hd1 no hPd ⊢
        refine lc_tup (K := K) (a := p) (xs := refsL L) (fun i H' => H' = upd H2 o (.lst (refsL ((L.take i).filter fun x => hB n mk sp (L.map (·.1)) x.1))))
          rfl (fun i H' _ e => by rw [e]; exact SqT.of (so _ _ _ (s01 _ _ hp))) ?_ ?_
        · rintro i x H' hi rfl
          obtain ⟨y, hy, rfl⟩ := refsL_at hi
          have hyL : y ∈ L := List.mem_of_getElem? hy
          have li := (List.getElem?_eq_some_iff.mp hy).1
          have tk : L.take (i + 1) = L.take i ++ [y] := by rw [List.take_add_one, hy]; rfl
          have ln : (refsL ((L.take i).filter fun x => hB n mk sp (L.map (·.1)) x.1)).length ≤ 100000 := by
            rw [refsL_len]
            refine Nat.le_trans (List.length_filter_le _ _) ?_
            rw [List.length_take]
            omega
          refine ⟨rfl, ?_⟩
          refine ⟨_, rfl, _, rfl, d, .int (cntM M M.length y.1 : Int), rfl, .inr ⟨kvs, keyP n mk sp y.1, y.2, .inl (so _ _ _ hd1), rfl, so _ _ _ (keyP_at (hPd y hyL)), (hC.2 y hyL).symm⟩, _, _, rfl, rfl, _, rfl, ?_⟩
          have rn := runsM D hL hM hyL
          refine ite2 (fun h => ?_) (fun h => ?_)
          · have h : (cntM M M.length y.1 : Int) ≤ 1 := of_decide_eq_true h
            have hb := hB_iff.mpr (rn.mp (by omega))
            refine ⟨_, rfl, _, upd_same, lt_line ln, ?_⟩
            rw [upd_upd, tk, List.filter_append, refsL_append, List.filter_cons_of_pos (p := fun x : Nat × Addr => hB n mk sp (L.map (·.1)) x.1) hb]
            rfl
          · have h : ¬ (cntM M M.length y.1 : Int) ≤ 1 := fun q => h (decide_eq_true q)
            have hb : ¬ hB n mk sp (L.map (·.1)) y.1 = true := fun q => h (by have := rn.mpr (hB_iff.mp q); omega)
            rw [tk, List.filter_append, refsL_append, List.filter_cons_of_neg (p := fun x : Nat × Addr => hB n mk sp (L.map (·.1)) x.1) hb, List.filter_nil]
            show _ = upd H2 o (.lst (_ ++ []))
            rw [List.append_nil]
        · rintro H' rfl
          rw [refsL_len, List.take_length]
          refine ⟨o, _, rfl, .inl ⟨.inl (.inl upd_same), fun q nq => ?_⟩⟩
          have sA := s01.trans (so (.lst (refsL (L.filter fun x => hB n mk sp (L.map (·.1)) x.1))))
          exact k _ q (sA.trans (same_upd nq)) (sA.free nq) upd_same
end
end TW

/-! W14 -/
namespace TW
open PySem L2
section
variable {P : Program} {w : World} {K : PySem.W.Frag} {mg : Str → Option Value} {base : Heap}
open Classical in
theorem hurL_map (n : Nat) (mk sp : Nat → Nat) (L : List (Nat × Addr)) : (hurL n mk sp L).map (·.1) = TR.hs (TR.sepN n mk sp) (L.map (·.1)) := by
  unfold hurL TR.hs
  rw [List.filter_map]
  rfl
theorem bads_psL {n : Nat} {mk sp : Nat → Nat} {L : List (Nat × Addr)} (h : L.map (·.1) = TR.bads n mk sp) : PsL n mk sp L where
  rep := fun x hx => by
    have : x.1 ∈ L.map (·.1) := List.mem_map.mpr ⟨x, hx, rfl⟩
    rw [h] at this
    exact (TR.mem_bads.mp this).1
  nd := by
    rw [h]
    exact TR.nd_bads
/-- the lines and the bad parts of the row's drawing, and the hurdles among these -/
abbrev sHur : Stmt := top 26
theorem scHur : FnScope ["row"] ["row"] (defScope sHur) := ⟨rfl, rfl, rfl, by decide +kernel, rfl, by decide +kernel, by decide +kernel⟩
def spHur : Sp := fun vs H Q _ => ∃ (a : Addr) (n : Nat) (r : List Int) (mk sp : Nat → Nat), vs = [.ref a] ∧ H a = some (rowO r) ∧ TR.Rw n r mk sp ∧ n ≤ 40 ∧
  ∀ H' p xs, Same H H' → H p = none → H' p = some (.tup xs) → xs.length = (TR.hs (TR.sepN n mk sp) (TR.bads n mk sp)).length → Q (.ref p) H'
theorem ok_hur {f fL fB fA : Addr} {fd fdL fdB fdA : FuncData} (F : Fun K "hurdles" "hurdles" sHur f fd) (GL : FnOk P w K mg base CX0 3 fL fdL ["row"] spLines) (kL : PySem.W.keepIn K (.ref fL) = true) (bL : Binds K fdL ["row"] []) (gL : mg "light_lines" = some (.ref fL))
    (GB : FnOk P w K mg base CX0 4 fB fdB ["row"] spBads) (kB : PySem.W.keepIn K (.ref fB) = true) (bB : Binds K fdB ["row"] []) (gB : mg "bad_parts" = some (.ref fB)) (GA : FnOk P w K mg base CX0 2 fA fdA ["lines", "some"] spAmong) (kA : PySem.W.keepIn K (.ref fA) = true) (bA : Binds K fdA ["lines", "some"] []) (gA : mg "hurdles_among" = some (.ref fA)) :
    FnOk P w K mg base CX0 5 f fd ["row"] spHur := by
  refine F.ok scHur (fun vs H Q E h => ?_) (fun cdv A outer s H vs Q E hr h => ?_)
  · obtain ⟨a, n, r, mk, sp, rfl, _⟩ := h
    rfl
  · obtain ⟨a, n, r, mk, sp, rfl, ha, R, hn, k⟩ := h
    have hr3 : Room 3 _ := hr.mono (by decide)
    have hr2 : Room 2 _ := hr.mono (by decide)
    refine ⟨_, pss_one (ps_ret (pe_call GA hr2 (by rfl) gA kA bA .nil pass0 (pa_cons (pe_call GL hr3 (by rfl) gL kL bL .nil pass0 (pa_cons (pv 0) pa_nil)) (pa_cons (pe_call GB hr (by rfl) gB kB bB .nil pass0 (pa_cons (pv 0) pa_nil)) pa_nil)))), ?_⟩
    refine ⟨_, rfl, a, n, r, mk, sp, rfl, ha, R, hn, fun H1 l s1 nl hl => ?_⟩
    refine ⟨_, rfl, a, n, r, mk, sp, rfl, s1 _ _ ha, R, hn, fun H2 p L s2 np hp hP hLb => ?_⟩
    refine ⟨l, p, n, mk, sp, L, rfl, hl.mono s2, R.dr, hn, hp, hP, bads_psL hLb, fun H3 q s3 nq hq => ?_⟩
    have e := congrArg List.length (hurL_map n mk sp L)
    rw [List.length_map, hLb] at e
    exact k _ q _ ((s1.trans s2).trans s3) ((s1.trans s2).free nq) hq (by rw [refsL_len, e])
/-! ### great hurdles -/
open Classical in
noncomputable def grB (n : Nat) (mk sp : Nat → Nat) (S : List Nat) (k : Nat) : Bool := decide (TR.great (TR.sepN n mk sp) S k)
open Classical in
theorem grB_iff {n : Nat} {mk sp : Nat → Nat} {S : List Nat} {k : Nat} : grB n mk sp S k = true ↔ TR.great (TR.sepN n mk sp) S k := decide_eq_true_iff
noncomputable def partI (n : Nat) (mk sp : Nat → Nat) (k : Nat) : List Int := nI (TR.partL n mk sp k)
noncomputable def dP (n : Nat) (mk sp : Nat → Nat) (L : List (Nat × Addr)) : List PyData := (L.map fun x => partI n mk sp x.1).map tD
theorem dp_parts {n : Nat} {mk sp : Nat → Nat} {H : Hp} : ∀ {L : List (Nat × Addr)}, PtsOk n mk sp H L → DpAll K H (refsL L) (dP n mk sp L)
  | [], _ => .nil
  | x :: r, h => .cons (.tup (SqT.of (h x List.mem_cons_self)) (dp_ints K H _)) (dp_parts (L := r) fun y hy => h y (List.mem_cons_of_mem _ hy))
theorem partI_inj {n : Nat} {mk sp : Nat → Nat} (D : TR.Dr n mk sp) {k l : Nat} (hk : TR.Rep n mk sp k) (hl : TR.Rep n mk sp l) (e : partI n mk sp k = partI n mk sp l) : k = l := TR.partL_inj D hk hl (nI_inj e)
theorem eqvL_nil : ∀ ds : List PyData, PyData.eqv (.list ds) (.list []) = ds.isEmpty
  | [] => by simp [PyData.eqv, PyData.eqvAll]
  | d :: ds => by simp [PyData.eqv, PyData.eqvAll]
/-- those of the hurdles without c that were none -/
noncomputable def newL (n : Nat) (mk sp : Nat → Nat) (L : List (Nat × Addr)) (c : Nat) : List (Nat × Addr) := (hurL n mk sp (L.filter fun x => decide (x.1 ≠ c))).filter fun x => !decide (partI n mk sp x.1 ∈ (hurL n mk sp L).map fun y => partI n mk sp y.1)
theorem map_but {L : List (Nat × Addr)} {c : Nat} : ∀ k, k ∈ (L.filter fun x => decide (x.1 ≠ c)).map (·.1) ↔ k ∈ TR.but c (L.map (·.1)) := fun k => by
  rw [TR.mem_but, List.mem_map, List.mem_map]
  constructor
  · rintro ⟨x, x1, rfl⟩
    obtain ⟨a, b⟩ := List.mem_filter.mp x1
    exact ⟨⟨x, a, rfl⟩, of_decide_eq_true b⟩
  · rintro ⟨⟨x, x1, rfl⟩, h⟩
    exact ⟨x, List.mem_filter.mpr ⟨x1, decide_eq_true h⟩, rfl⟩
theorem newL_iff {n : Nat} {mk sp : Nat → Nat} (D : TR.Dr n mk sp) {L : List (Nat × Addr)} (hL : PsL n mk sp L) (c : Nat) : newL n mk sp L c ≠ [] ↔ TR.great (TR.sepN n mk sp) (L.map (·.1)) c := by
  have isb : ∀ k, TR.isH (TR.sepN n mk sp) ((L.filter fun x => decide (x.1 ≠ c)).map (·.1)) k ↔ TR.isH (TR.sepN n mk sp) (TR.but c (L.map (·.1))) k := fun k =>
    ⟨fun q => q.mono fun x hx => (map_but x).mpr hx, fun q => q.mono fun x hx => (map_but x).mp hx⟩
  have inP : ∀ y, y ∈ L → (partI n mk sp y.1 ∈ (hurL n mk sp L).map (fun y => partI n mk sp y.1) ↔ TR.isH (TR.sepN n mk sp) (L.map (·.1)) y.1) := fun y hy => by
    rw [List.mem_map]
    constructor
    · rintro ⟨z, z1, z2⟩
      obtain ⟨a, b⟩ := List.mem_filter.mp z1
      have e := partI_inj D (hL.rep z a) (hL.rep y hy) z2
      rw [← e]
      exact hB_iff.mp b
    · intro q
      exact ⟨y, List.mem_filter.mpr ⟨hy, hB_iff.mpr q⟩, rfl⟩
  constructor
  · intro h
    obtain ⟨y, hy⟩ := List.exists_mem_of_ne_nil _ h
    unfold newL at hy
    obtain ⟨h1, h2⟩ := List.mem_filter.mp hy
    obtain ⟨h3, h4⟩ := List.mem_filter.mp h1
    obtain ⟨h5, h6⟩ := List.mem_filter.mp h3
    refine ⟨y.1, List.mem_map.mpr ⟨y, h5, rfl⟩, of_decide_eq_true h6, (isb _).mp (hB_iff.mp h4), fun q => ?_⟩
    rw [decide_eq_true ((inP y h5).mpr q)] at h2
    cases h2
  · rintro ⟨u, u1, u2, u3, u4⟩ e
    obtain ⟨y, hy, rfl⟩ := List.mem_map.mp u1
    have : y ∈ newL n mk sp L c := by
      unfold newL
      refine List.mem_filter.mpr ⟨show y ∈ hurL n mk sp (L.filter fun x => decide (x.1 ≠ c)) from List.mem_filter.mpr ⟨List.mem_filter.mpr ⟨hy, decide_eq_true u2⟩, hB_iff.mpr ((isb _).mpr u3)⟩, ?_⟩
      have q : ¬ partI n mk sp y.1 ∈ (hurL n mk sp L).map (fun y => partI n mk sp y.1) := fun q => u4 ((inP y hy).mp q)
      rw [decide_eq_false q]
      rfl
    rw [e] at this
    exact List.not_mem_nil this
abbrev sGreat : Stmt := top 27
theorem scGreat : FnScope ["row", "lines", "bad", "plain", "found", "hurdle", "others", "part"] ["row"] (defScope sGreat) := ⟨rfl, rfl, rfl, by decide +kernel, rfl, by decide +kernel, by decide +kernel⟩
def spGreat : Sp := fun vs H Q _ => ∃ (a : Addr) (n : Nat) (r : List Int) (mk sp : Nat → Nat), vs = [.ref a] ∧ H a = some (rowO r) ∧ TR.Rw n r mk sp ∧ n ≤ 40 ∧
  ∀ H' p xs, Same H H' → H p = none → H' p = some (.tup xs) → xs.length = ((TR.hs (TR.sepN n mk sp) (TR.bads n mk sp)).filter (grB n mk sp (TR.bads n mk sp))).length → Q (.ref p) H'
theorem psL_filter {n : Nat} {mk sp : Nat → Nat} {L : List (Nat × Addr)} (h : PsL n mk sp L) (p : Nat × Addr → Bool) : PsL n mk sp (L.filter p) where
  rep := fun x hx => h.rep x (List.mem_filter.mp hx).1
  nd := (List.Sublist.map (fun (x : Nat × Addr) => x.1) (List.filter_sublist (p := p) (l := L))).nodup h.nd
theorem filter_snoc {α : Type} (p : α → Bool) (l : List α) (x : α) : (l ++ [x]).filter p = l.filter p ++ (if p x = true then [x] else []) := by
  rw [List.filter_append]
  by_cases h : p x = true
  · rw [if_pos h, List.filter_cons_of_pos h]
    rfl
  · rw [if_neg h, List.filter_cons_of_neg h]
    rfl
theorem ok_great {f fL fB fA : Addr} {fd fdL fdB fdA : FuncData} (T : Bt mg) (F : Fun K "great_hurdles" "great_hurdles" sGreat f fd) (GL : FnOk P w K mg base CX0 3 fL fdL ["row"] spLines) (kL : PySem.W.keepIn K (.ref fL) = true) (bL : Binds K fdL ["row"] []) (gL : mg "light_lines" = some (.ref fL))
    (GB : FnOk P w K mg base CX0 4 fB fdB ["row"] spBads) (kB : PySem.W.keepIn K (.ref fB) = true) (bB : Binds K fdB ["row"] []) (gB : mg "bad_parts" = some (.ref fB)) (GA : FnOk P w K mg base CX0 2 fA fdA ["lines", "some"] spAmong) (kA : PySem.W.keepIn K (.ref fA) = true) (bA : Binds K fdA ["lines", "some"] []) (gA : mg "hurdles_among" = some (.ref fA)) :
    FnOk P w K mg base CX0 5 f fd ["row"] spGreat := by
  refine F.ok scGreat (fun vs H Q E h => ?_) (fun cdv A outer s H vs Q E hr h => ?_)
  · obtain ⟨a, n, r, mk, sp, rfl, _⟩ := h
    rfl
  · obtain ⟨a, n, r, mk, sp, rfl, ha, R, hn, k⟩ := h
    have D := R.dr
    have hr3 : Room 3 _ := hr.mono (by decide)
    have hr2 : Room 2 _ := hr.mono (by decide)
    refine ⟨_, pss_cons (ps_set (i := 1) scGreat.nd rfl (Or.inl rfl) (pe_call GL hr3 (by rfl) gL kL bL .nil pass0 (pa_cons (pv 0) pa_nil)))
      (pss_cons (ps_set (i := 2) scGreat.nd rfl (Or.inl rfl) (pe_call GB hr (by rfl) gB kB bB .nil pass0 (pa_cons (pv 0) pa_nil)))
      (pss_cons (ps_set (i := 3) scGreat.nd rfl (Or.inr rfl) (pe_call GA hr2 (by rfl) gA kA bA .nil pass0 (pa_cons (pv 1) (pa_cons (pv 2) pa_nil))))
      (pss_cons (ps_set (i := 4) scGreat.nd rfl (Or.inl rfl) (pe_lst pa_nil))
      (pss_cons (ps_for PassesOwn.never rfl (pi_tup (pv 3)) (pg_name (i := 5) scGreat.nd rfl (Or.inr rfl))
        (pss_cons (ps_set (i := 6) scGreat.nd rfl (Or.inl rfl) (pe_callTy call_tuple_of (by rfl) T.tuple (by decide +kernel) (pa_cons (pe_lc (own := [("part", 7)]) (g := gName 7) (by rfl) scGreat.nd (pi_tup (pv 2))
            (blkOk_by (own := [("part", 7)]) (N := ["row", "lines", "bad", "plain", "found", "hurdle", "others", "part"]) (sc := defScope sGreat) (by decide +kernel)) (fun _ _ _ _ _ => pg_name (i := 7) scGreat.nd rfl (Or.inl rfl))
            (fun _ _ _ _ _ => pts_one (pt_cmpR (r := rNeD K) (op_neD (hu64 hr)) (pv 7) (pv 5) (nomark _))) (fun _ _ _ _ _ => pv 7)) pa_nil)))
        (pss_one (ps_if (pt_cmpR (op_neD (hu64 hr)) (pe_lc (own := [("part", 7)]) (g := gName 7) (by rfl) scGreat.nd (pi_tup (pe_call GA hr2 (by rfl) gA kA bA .nil pass0 (pa_cons (pv 1) (pa_cons (pv 6) pa_nil))))
            (blkOk_by (own := [("part", 7)]) (N := ["row", "lines", "bad", "plain", "found", "hurdle", "others", "part"]) (sc := defScope sGreat) (by decide +kernel)) (fun _ _ _ _ _ => pg_name (i := 7) scGreat.nd rfl (Or.inl rfl))
            (fun _ _ _ _ _ => pts_one (pt_cmpR (r := rOutT K) (op_outT (hu64 hr)) (pv 7) (pv 3) (by rfl))) (fun _ _ _ _ _ => pv 7)) (pe_lst pa_nil) (nomark _))
          (pss_one (ps_expr (pe_bm PySem.F.plainAttrs_list PySem.F.slot_list_append PySem.F.type_list_append mt_append (pv 4) (pa_cons (pv 5) pa_nil)))) pss_nil))))
      (pss_one (ps_ret (pe_callTy call_tuple_of (by rfl) T.tuple (by decide +kernel) (pa_cons (pv 4) pa_nil)))))))), ?_⟩
    refine ⟨_, rfl, a, n, r, mk, sp, rfl, ha, R, hn, fun H1 l s1 nl hl => ?_⟩
    refine ⟨_, rfl, a, n, r, mk, sp, rfl, s1 _ _ ha, R, hn, fun H2 b L s2 nb hb hP hLb => ?_⟩
    have hL := bads_psL hLb
    refine ⟨_, rfl, _, rfl, l, b, n, mk, sp, L, rfl, hl.mono s2, D, hn, hb, hP, hL, fun H3 p s3 np hp => ?_⟩
    refine ⟨Nat.zero_le _, fun fo nfo => ?_⟩
    have sH3 := (s1.trans s2).trans s3
    have nfo0 := sH3.free nfo
    have sf : Same H3 (upd H3 fo (.lst [])) := same_upd nfo
    have lL := hL.len
    have hP3 := hP.mono s3
    have hl3 := (hl.mono s2).mono s3
    have hb3 := s3 _ _ hb
    have hsub : ∀ x, x ∈ hurL n mk sp L → x ∈ L := fun x hx => (List.mem_filter.mp hx).1
    have hPh : PtsOk n mk sp H3 (hurL n mk sp L) := fun x hx => hP3 x (hsub x hx)
    refine ⟨_, rfl, p, rfl, ⟨_, SqT.of (sf _ _ hp)⟩, for_tup (K := K) (a := p) (xs := refsL (hurL n mk sp L)) (fun i σ H' => ∃ (v5 v6 : Option V), σ = [some (.ref a), some (.ref l), some (.ref b), some (.ref p), some (.ref fo), v5, v6, none] ∧ Same H3 H' ∧
        H' fo = some (.lst (refsL (((hurL n mk sp L).take i).filter fun x => grB n mk sp (L.map (·.1)) x.1))))
      ⟨none, none, rfl, sf, upd_same⟩ (fun i σ H' _ ⟨_, _, _, sm, _⟩ => SqT.of (sm _ _ hp)) ?_ ?_⟩
    · rintro i x σ H' hi ⟨v5, v6, rfl, sm, hfo⟩
      obtain ⟨y, hy, rfl⟩ := refsL_at hi
      have hyH : y ∈ hurL n mk sp L := List.mem_of_getElem? hy
      have hyL := hsub y hyH
      have rep := hL.rep y hyL
      have tk : (hurL n mk sp L).take (i + 1) = (hurL n mk sp L).take i ++ [y] := by rw [List.take_add_one, hy]; rfl
      -- others
      refine ⟨_, rfl, b, rfl, ⟨_, SqT.of (sm _ _ hb3)⟩, fun o no => ?_⟩
      have so : ∀ u, Same H' (upd H' o u) := fun u => same_upd no
      refine lc_tup (K := K) (a := b) (xs := refsL L) (fun j H4 => H4 = upd H' o (.lst (refsL ((L.take j).filter fun x => decide (x.1 ≠ y.1)))))
        rfl (fun j H4 _ e => by rw [e]; exact SqT.of (so _ _ _ (sm _ _ hb3))) ?_ ?_
      · rintro j z H4 hj rfl
        obtain ⟨u, hu, rfl⟩ := refsL_at hj
        have huL : u ∈ L := List.mem_of_getElem? hu
        have lj := (List.getElem?_eq_some_iff.mp hu).1
        have tk2 : L.take (j + 1) = L.take j ++ [u] := by rw [List.take_add_one, hu]; rfl
        have k1 := so (.lst (refsL ((L.take j).filter fun x => decide (x.1 ≠ y.1)))) _ _ (sm _ _ (hP3 u huL))
        have k2 := so (.lst (refsL ((L.take j).filter fun x => decide (x.1 ≠ y.1)))) _ _ (sm _ _ (hP3 y hyL))
        refine ⟨rfl, ?_⟩
        refine ⟨_, rfl, _, rfl, _, _, .tup (SqT.of k1) (dp_ints K _ _), .tup (SqT.of k2) (dp_ints K _ _), ints_shT _, ints_shT _, ?_⟩
        rw [eqvT]
        refine ⟨_, rfl, ?_⟩
        rw [tk2, filter_snoc]
        by_cases e : u.1 = y.1
        · rw [e, decide_eq_true rfl]
          refine iteF ?_
          rw [if_neg (by simp [e]), List.append_nil]
        · have ne : decide (nI (TR.partL n mk sp u.1) = nI (TR.partL n mk sp y.1)) = false := decide_eq_false fun q => e (TR.partL_inj D (hL.rep u huL) rep (nI_inj q))
          rw [ne]
          refine iteT (B := True) ?_
          refine ⟨_, rfl, _, upd_same, lt_line ?_, ?_⟩
          · rw [refsL_len]
            refine Nat.le_trans (List.length_filter_le _ _) ?_
            rw [List.length_take]
            omega
          · rw [upd_upd, if_pos (by simp [e]), refsL_append]
            rfl
      · rintro H4 rfl
        rw [refsL_len, List.take_length]
        refine ⟨o, _, rfl, .inl ⟨.inl (.inl upd_same), fun q nq => ?_⟩⟩
        have sq := (sm.trans (so (.lst (refsL (L.filter fun x => decide (x.1 ≠ y.1)))))).trans (same_upd (o := .tup (refsL (L.filter fun x => decide (x.1 ≠ y.1)))) nq)
        have hfo4 : (upd (upd H' o (.lst (refsL (L.filter fun x => decide (x.1 ≠ y.1))))) q (.tup (refsL (L.filter fun x => decide (x.1 ≠ y.1))))) fo = some (.lst (refsL (((hurL n mk sp L).take i).filter fun x => grB n mk sp (L.map (·.1)) x.1))) := same_upd nq _ _ (so _ _ _ hfo)
        have hq4 : (upd (upd H' o (.lst (refsL (L.filter fun x => decide (x.1 ≠ y.1))))) q (.tup (refsL (L.filter fun x => decide (x.1 ≠ y.1))))) q = some (.tup (refsL (L.filter fun x => decide (x.1 ≠ y.1)))) := upd_same
        generalize upd (upd H' o (.lst (refsL (L.filter fun x => decide (x.1 ≠ y.1))))) q (.tup (refsL (L.filter fun x => decide (x.1 ≠ y.1)))) = H5 at sq hfo4 hq4 ⊢
        -- the hurdles among the others
        refine ⟨_, rfl, _, rfl, l, q, n, mk, sp, L.filter (fun x => decide (x.1 ≠ y.1)), rfl, hl3.mono sq, D, hn, hq4, fun x hx => sq _ _ (hP3 x (List.mem_filter.mp hx).1), psL_filter hL _, fun H6 t s6 nt ht => ?_⟩
        refine ⟨t, rfl, ⟨_, SqT.of ht⟩, fun o2 no2 => ?_⟩
        have so2 : ∀ u, Same H6 (upd H6 o2 u) := fun u => same_upd no2
        have sq6 := sq.trans s6
        have hsub2 : ∀ x, x ∈ hurL n mk sp (L.filter fun x => decide (x.1 ≠ y.1)) → x ∈ L := fun x hx => (List.mem_filter.mp (List.mem_filter.mp hx).1).1
        refine lc_tup (K := K) (a := t) (xs := refsL (hurL n mk sp (L.filter fun x => decide (x.1 ≠ y.1)))) (fun j H7 => H7 = upd H6 o2 (.lst (refsL (((hurL n mk sp (L.filter fun x => decide (x.1 ≠ y.1))).take j).filter fun x => !decide (partI n mk sp x.1 ∈ (hurL n mk sp L).map fun y => partI n mk sp y.1)))))
          rfl (fun j H7 _ e => by rw [e]; exact SqT.of (so2 _ _ _ ht)) ?_ ?_
        · rintro j z H7 hj rfl
          obtain ⟨u, hu, rfl⟩ := refsL_at hj
          have huH := List.mem_of_getElem? hu
          have huL := hsub2 u huH
          have lj := (List.getElem?_eq_some_iff.mp hu).1
          have lh : (hurL n mk sp (L.filter fun x => decide (x.1 ≠ y.1))).length ≤ L.length := by
            unfold hurL
            exact Nat.le_trans (List.length_filter_le _ _) (List.length_filter_le _ _)
          have tk2 : (hurL n mk sp (L.filter fun x => decide (x.1 ≠ y.1))).take (j + 1) = (hurL n mk sp (L.filter fun x => decide (x.1 ≠ y.1))).take j ++ [u] := by rw [List.take_add_one, hu]; rfl
          have sx := so2 (.lst (refsL (((hurL n mk sp (L.filter fun x => decide (x.1 ≠ y.1))).take j).filter fun x => !decide (partI n mk sp x.1 ∈ (hurL n mk sp L).map fun y => partI n mk sp y.1))))
          have k1 := sx _ _ (sq6 _ _ (hP3 u huL))
          have k2 := sx _ _ (sq6 _ _ hp)
          have k3 : PtsOk n mk sp _ (hurL n mk sp L) := fun x hx => sx _ _ (sq6 _ _ (hPh x hx))
          refine ⟨rfl, ?_⟩
          refine ⟨_, rfl, _, rfl, tD (partI n mk sp u.1), dP n mk sp (hurL n mk sp L), .tup (SqT.of k1) (dp_ints K _ _), .tup (SqT.of k2) (dp_parts k3), ints_shT _, tD_shT _, Nat.le_trans (tD_depth _) (by decide), ?_⟩
          unfold dP
          rw [tD_any]
          refine ⟨_, rfl, ?_⟩
          rw [tk2, filter_snoc]
          refine ite2 (fun e => ?_) (fun e => ?_)
          · refine ⟨_, rfl, _, upd_same, lt_line ?_, ?_⟩
            · rw [refsL_len]
              refine Nat.le_trans (List.length_filter_le _ _) ?_
              rw [List.length_take]
              omega
            · rw [upd_upd, if_pos e, refsL_append]
              rfl
          · rw [if_neg e, List.append_nil]
        · rintro H7 rfl
          rw [refsL_len, List.take_length]
          refine ⟨Nat.zero_le _, fun em nem => ?_⟩
          have enew : (hurL n mk sp (L.filter fun x => decide (x.1 ≠ y.1))).filter (fun x => !decide (partI n mk sp x.1 ∈ (hurL n mk sp L).map fun y => partI n mk sp y.1)) = newL n mk sp L y.1 := rfl
          rw [enew] at nem ⊢
          have sx : Same H6 (upd (upd H6 o2 (.lst (refsL (newL n mk sp L y.1)))) em (.lst [])) := (so2 _).trans (same_upd nem)
          have k1 : (upd (upd H6 o2 (.lst (refsL (newL n mk sp L y.1)))) em (.lst [])) o2 = some (.lst (refsL (newL n mk sp L y.1))) := same_upd nem _ _ upd_same
          have k2 : (upd (upd H6 o2 (.lst (refsL (newL n mk sp L y.1)))) em (.lst [])) em = some (.lst []) := upd_same
          have k3 : PtsOk n mk sp (upd (upd H6 o2 (.lst (refsL (newL n mk sp L y.1)))) em (.lst [])) (newL n mk sp L y.1) := fun x hx => sx _ _ (sq6 _ _ (hP3 x (hsub2 x (List.mem_filter.mp hx).1)))
          generalize upd (upd H6 o2 (.lst (refsL (newL n mk sp L y.1)))) em (.lst []) = H8 at sx k1 k2 k3 ⊢
          have s8 := sq6.trans sx
          have hfo8 := sx _ _ (s6 _ _ hfo4)
          refine ⟨_, _, .lst (.inl (.inl k1)) (dp_parts k3), .lst (.inl (.inl k2)) .nil, tD_shL _, ints_shL [], ?_⟩
          rw [eqvL_nil]
          refine ⟨_, rfl, ?_⟩
          have hgr := newL_iff D hL y.1
          have lh : (hurL n mk sp L).length ≤ L.length := List.length_filter_le _ _
          refine ite2 (fun e => ?_) (fun e => ?_)
          · have ne : newL n mk sp L y.1 ≠ [] := fun z => by
              rw [z] at e
              cases e
            have g := grB_iff.mpr (hgr.mp ne)
            refine ⟨_, rfl, .inl ⟨rfl, _, SqL.of hfo8⟩, _, rfl, fo, _, _, rfl, rfl, hfo8, lt_line ?_, ?_⟩
            · rw [refsL_len]
              refine Nat.le_trans (List.length_filter_le _ _) ?_
              rw [List.length_take]
              omega
            · refine ⟨_, _, rfl, fun c u e => ?_, ?_⟩
              · have := s8 _ _ e
                rw [upd_ne (ne_of_none e nfo)]
                exact this
              · rw [upd_same, tk, filter_snoc, if_pos g, refsL_append]
                rfl
          · have e0 : newL n mk sp L y.1 = [] := by
              cases z : newL n mk sp L y.1 with
              | nil => rfl
              | cons u v =>
                rw [z] at e
                exact absurd rfl e
            have g : ¬ grB n mk sp (L.map (·.1)) y.1 = true := fun q => hgr.mpr (grB_iff.mp q) e0
            refine ⟨_, _, rfl, s8, ?_⟩
            rw [tk, filter_snoc, if_neg g, List.append_nil]
            exact hfo8
    · rintro σ H' ⟨v5, v6, rfl, sm, hfo⟩
      rw [refsL_len, List.take_length] at hfo
      refine ⟨_, rfl, fo, _, rfl, .inl ⟨.inl (.inl hfo), fun q nq => ?_⟩⟩
      have sA := sH3.trans sm
      refine k _ q _ (sA.trans (same_upd nq)) (sA.free nq) upd_same ?_
      rw [refsL_len, ← hLb, ← hurL_map, List.filter_map, List.length_map]
      rfl
end
end TW

/-! W15 -/
namespace TW
open PySem L2
section
variable {P : Program} {w : World} {K : PySem.W.Frag} {mg : Str → Option Value} {base : Heap}
open Classical in
noncomputable def fortB (n : Nat) (mk sp : Nat → Nat) : Bool := decide (TR.fort (TR.sepN n mk sp) (TR.bads n mk sp))
open Classical in
theorem fortB_eq (n : Nat) (mk sp : Nat → Nat) : fortB n mk sp = (decide ((TR.hs (TR.sepN n mk sp) (TR.bads n mk sp)).length % 2 = 1) &&
    decide (((TR.hs (TR.sepN n mk sp) (TR.bads n mk sp)).filter (grB n mk sp (TR.bads n mk sp))).length = (TR.hs (TR.sepN n mk sp) (TR.bads n mk sp)).length)) := by
  unfold fortB
  rw [← Bool.decide_and]
  refine decide_eq_decide.mpr ?_
  unfold TR.fort
  rw [List.length_filter_eq_length_iff]
  exact and_congr_right fun _ => forall_congr' fun c => imp_congr_right fun _ => grB_iff.symm
open Classical in
theorem cost_eq (n : Nat) (mk sp : Nat → Nat) : (TR.cost (TR.sepN n mk sp) (TR.bads n mk sp) : Int) = ((TR.hs (TR.sepN n mk sp) (TR.bads n mk sp)).length : Int) + (if fortB n mk sp = true then 1 else 0) := by
  unfold TR.cost fortB
  by_cases h : TR.fort (TR.sepN n mk sp) (TR.bads n mk sp)
  · rw [if_pos h, if_pos (decide_eq_true h)]
    rfl
  · rw [if_neg h, if_neg fun q => h (of_decide_eq_true q)]
    rfl
abbrev sFort : Stmt := top 28
theorem scFort : FnScope ["row", "count"] ["row"] (defScope sFort) := ⟨rfl, rfl, rfl, by decide +kernel, rfl, by decide +kernel, by decide +kernel⟩
def spFort : Sp := fun vs H Q _ => ∃ (a : Addr) (n : Nat) (r : List Int) (mk sp : Nat → Nat), vs = [.ref a] ∧ H a = some (rowO r) ∧ TR.Rw n r mk sp ∧ n ≤ 40 ∧ ∀ H', Same H H' → Q (.bl (fortB n mk sp)) H'
theorem ok_fort {f fH fG : Addr} {fd fdH fdG : FuncData} (T : Bt mg) (F : Fun K "is_fortress" "is_fortress" sFort f fd) (GH : FnOk P w K mg base CX0 5 fH fdH ["row"] spHur) (kH : PySem.W.keepIn K (.ref fH) = true) (bH : Binds K fdH ["row"] []) (gH : mg "hurdles" = some (.ref fH))
    (GG : FnOk P w K mg base CX0 5 fG fdG ["row"] spGreat) (kG : PySem.W.keepIn K (.ref fG) = true) (bG : Binds K fdG ["row"] []) (gG : mg "great_hurdles" = some (.ref fG)) : FnOk P w K mg base CX0 6 f fd ["row"] spFort := by
  refine F.ok scFort (fun vs H Q E h => ?_) (fun cdv A outer s H vs Q E hr h => ?_)
  · obtain ⟨a, n, r, mk, sp, rfl, _⟩ := h
    rfl
  · obtain ⟨a, n, r, mk, sp, rfl, ha, R, hn, k⟩ := h
    refine ⟨_, pss_cons (ps_set (i := 1) scFort.nd rfl (Or.inl rfl) (pe_callB call_len_seq (by rfl) T.len PySem.boot_len (pa_cons (pe_call GH hr (by rfl) gH kH bH .nil pass0 (pa_cons (pv 0) pa_nil)) pa_nil)))
      (pss_one (ps_ret (pe_and (pe_cmpR op_eq (pe_op op_mod (pv 1) pe_int) pe_int (nomark _))
        (pe_one (pe_cmpR op_eq (pe_callB call_len_seq (by rfl) T.len PySem.boot_len (pa_cons (pe_call GG hr (by rfl) gG kG bG .nil pass0 (pa_cons (pv 0) pa_nil)) pa_nil)) (pv 1) (nomark _)))))), ?_⟩
    refine ⟨_, rfl, a, n, r, mk, sp, rfl, ha, R, hn, fun H1 p xs s1 np hp lx => ?_⟩
    refine ⟨p, _, rfl, .inr (SqT.of hp), ?_⟩
    rw [lx]
    refine ⟨_, rfl, _, _, rfl, rfl, (by show (0 : Int) < 2; decide), rfl, _, rfl, ?_⟩
    rw [fortB_eq] at k
    refine ite2 (fun h => ?_) (fun h => ?_)
    · have h : ((TR.hs (TR.sepN n mk sp) (TR.bads n mk sp)).length : Int) % 2 = 1 := dV h
      refine ⟨_, rfl, a, n, r, mk, sp, rfl, s1 _ _ ha, R, hn, fun H2 q ys s2 nq hq ly => ?_⟩
      refine ⟨q, _, rfl, .inr (SqT.of hq), _, rfl, rfl, ?_⟩
      rw [decide_eq_true (show (TR.hs (TR.sepN n mk sp) (TR.bads n mk sp)).length % 2 = 1 by omega), Bool.true_and, ← ly] at k
      show Q (.bl (decide (V.int (ys.length : Int) = V.int ((TR.hs (TR.sepN n mk sp) (TR.bads n mk sp)).length : Int)))) H2
      rw [dVi]
      have e : decide ((ys.length : Int) = ((TR.hs (TR.sepN n mk sp) (TR.bads n mk sp)).length : Int)) = decide (ys.length = (TR.hs (TR.sepN n mk sp) (TR.bads n mk sp)).length) := decide_eq_decide.mpr (by omega)
      rw [e]
      exact k _ (s1.trans s2)
    · have h : ((TR.hs (TR.sepN n mk sp) (TR.bads n mk sp)).length : Int) % 2 ≠ 1 := dVn h
      rw [decide_eq_false (show ¬ (TR.hs (TR.sepN n mk sp) (TR.bads n mk sp)).length % 2 = 1 by omega), Bool.false_and] at k
      exact k _ s1
abbrev sSort : Stmt := top 30
theorem scSort : FnScope ["row"] ["row"] (defScope sSort) := ⟨rfl, rfl, rfl, by decide +kernel, rfl, by decide +kernel, by decide +kernel⟩
def spSort : Sp := fun vs H Q _ => ∃ (a : Addr) (n : Nat) (r : List Int) (mk sp : Nat → Nat), vs = [.ref a] ∧ H a = some (rowO r) ∧ TR.Rw n r mk sp ∧ n ≤ 40 ∧ ∀ H', Same H H' → Q (.int (TR.Vt n mk sp)) H'
theorem ok_sort {f fR fH fF : Addr} {fd fdR fdH fdF : FuncData} (T : Bt mg) (F : Fun K "turns_to_sorted" "turns_to_sorted" sSort f fd) (GR : FnOk P w K mg base CX0 5 fR fdR ["row"] spRings) (kR : PySem.W.keepIn K (.ref fR) = true) (bR : Binds K fdR ["row"] []) (gR : mg "drawing_rings" = some (.ref fR))
    (GH : FnOk P w K mg base CX0 5 fH fdH ["row"] spHur) (kH : PySem.W.keepIn K (.ref fH) = true) (bH : Binds K fdH ["row"] []) (gH : mg "hurdles" = some (.ref fH))
    (GF : FnOk P w K mg base CX0 6 fF fdF ["row"] spFort) (kF : PySem.W.keepIn K (.ref fF) = true) (bF : Binds K fdF ["row"] []) (gF : mg "is_fortress" = some (.ref fF)) : FnOk P w K mg base CX0 7 f fd ["row"] spSort := by
  refine F.ok scSort (fun vs H Q E h => ?_) (fun cdv A outer s H vs Q E hr h => ?_)
  · obtain ⟨a, n, r, mk, sp, rfl, _⟩ := h
    rfl
  · obtain ⟨a, n, r, mk, sp, rfl, ha, R, hn, k⟩ := h
    have hr5 : Room 5 _ := hr.mono (by decide)
    refine ⟨_, pss_one (ps_ret (pe_op op_add (pe_op op_add (pe_op op_sub (pe_op op_add (pe_callB call_len_seq (by rfl) T.len PySem.boot_len (pa_cons (pv 0) pa_nil)) pe_int)
        (pe_callB call_len_seq (by rfl) T.len PySem.boot_len (pa_cons (pe_call GR hr5 (by rfl) gR kR bR .nil pass0 (pa_cons (pv 0) pa_nil)) pa_nil)))
        (pe_callB call_len_seq (by rfl) T.len PySem.boot_len (pa_cons (pe_call GH hr5 (by rfl) gH kH bH .nil pass0 (pa_cons (pv 0) pa_nil)) pa_nil)))
        (pe_callTy call_int1 (by rfl) T.int (by decide +kernel) (pa_cons (pe_call GF hr (by rfl) gF kF bF .nil pass0 (pa_cons (pv 0) pa_nil)) pa_nil)))), ?_⟩
    refine ⟨_, rfl, a, _, rfl, .inr (SqT.of ha), _, _, rfl, rfl, ?_⟩
    refine ⟨_, rfl, a, n, r, mk, sp, rfl, ha, R, hn, fun H1 p xs s1 np hp lx => ?_⟩
    refine ⟨p, _, rfl, .inr (SqT.of hp), _, _, rfl, rfl, ?_⟩
    refine ⟨_, rfl, a, n, r, mk, sp, rfl, s1 _ _ ha, R, hn, fun H2 q ys s2 nq hq ly => ?_⟩
    refine ⟨q, _, rfl, .inr (SqT.of hq), _, _, rfl, rfl, ?_⟩
    have s12 := s1.trans s2
    refine ⟨_, rfl, a, n, r, mk, sp, rfl, s12 _ _ ha, R, hn, fun H3 s3 => .inr ⟨_, rfl, _, _, rfl, rfl, ?_⟩⟩
    have e : TR.Vt n mk sp = ((r.map V.int).length : Int) + 1 - (xs.length : Int) + (ys.length : Int) + (if fortB n mk sp = true then 1 else 0) := by
      unfold TR.Vt
      rw [cost_eq, lx, ly, List.length_map, R.sr.len]
      omega
    rw [e] at k
    exact k _ (s12.trans s3)
abbrev sLeast : Stmt := top 31
theorem scLeast : FnScope ["first", "second"] ["first", "second"] (defScope sLeast) := ⟨rfl, rfl, rfl, by decide +kernel, rfl, by decide +kernel, by decide +kernel⟩
def spLeast : Sp := fun vs H Q _ => ∃ (a b : Addr) (n : Nat) (f s : List Int) (mf sf ms ss : Nat → Nat), vs = [.ref a, .ref b] ∧ H a = some (rowO f) ∧ H b = some (rowO s) ∧ TR.Rw n f mf sf ∧ TR.Rw n s ms ss ∧ n ≤ 40 ∧
  ∀ H', Same H H' → Q (.int (TR.VV n mf sf ms ss)) H'
theorem ok_least {f fR fS : Addr} {fd fdR fdS : FuncData} (F : Fun K "least_turns" "least_turns" sLeast f fd) (GR : FnOk P w K mg base CX0 2 fR fdR ["first", "second"] spRel) (kR : PySem.W.keepIn K (.ref fR) = true) (bR : Binds K fdR ["first", "second"] []) (gR : mg "relative_signed" = some (.ref fR))
    (GS : FnOk P w K mg base CX0 7 fS fdS ["row"] spSort) (kS : PySem.W.keepIn K (.ref fS) = true) (bS : Binds K fdS ["row"] []) (gS : mg "turns_to_sorted" = some (.ref fS)) : FnOk P w K mg base CX0 8 f fd ["first", "second"] spLeast := by
  refine F.ok scLeast (fun vs H Q E h => ?_) (fun cdv A outer s H vs Q E hr h => ?_)
  · obtain ⟨a, b, n, f, s, mf, sf, ms, ss, rfl, _⟩ := h
    rfl
  · obtain ⟨a, b, n, f, s, mf, sf, ms, ss, rfl, ha, hb, Rf, Rs, hn, k⟩ := h
    have hr2 : Room 2 _ := hr.mono (by decide)
    refine ⟨_, pss_one (ps_ret (pe_call GS hr (by rfl) gS kS bS .nil pass0 (pa_cons (pe_call GR hr2 (by rfl) gR kR bR .nil pass0 (pa_cons (pv 0) (pa_cons (pv 1) pa_nil))) pa_nil))), ?_⟩
    refine ⟨_, rfl, _, rfl, a, b, n, f, s, rfl, ha, hb, Rf.sr, Rs.sr, hn, fun H1 p R s1 np hp hR => ?_⟩
    exact ⟨p, n, R, _, _, rfl, hp, TR.rel_rw Rf Rs hR, hn, fun H2 s2 => k _ (s1.trans s2)⟩
end
end TW

/-! W16 -/
namespace TW
open PySem L2
section
variable {P : Program} {w : World} {K : PySem.W.Frag} {mg : Str → Option Value} {base : Heap}
/-! ### the law's own helpers: cells, digits -/
abbrev sCell : Stmt := top 33
theorem scCell : FnScope ["_law_script", "_law_k"] ["_law_script", "_law_k"] (defScope sCell) := ⟨rfl, rfl, rfl, by decide +kernel, rfl, by decide +kernel, by decide +kernel⟩
def spCell (K : PySem.W.Frag) : Sp := fun vs H Q _ => ∃ (a : Addr) (ns : List Int) (k : Nat), vs = [.ref a, .int (k : Int)] ∧ SqL K H a (ns.map V.int) ∧ ∀ z : Int, Q (.int z) H
theorem ok_cell {f : Addr} {fd : FuncData} (T : Bt mg) (F : Fun K "_law_cell" "_law_cell" sCell f fd) : FnOk P w K mg base CX0 1 f fd ["_law_script", "_law_k"] (spCell K) := by
  refine F.ok scCell (fun vs H Q E h => ?_) (fun cdv A outer s H vs Q E hr h => ?_)
  · obtain ⟨a, ns, k, rfl, _⟩ := h
    rfl
  · obtain ⟨a, ns, kk, rfl, ha, k⟩ := h
    refine ⟨_, pss_cons (ps_if (pt_cmpR op_lt (pv 1) (pe_callB call_len_seq (by rfl) T.len PySem.boot_len (pa_cons (pv 0) pa_nil)) (nomark _)) (pss_one (ps_ret (pe_ix ix_list (pv 0) (pv 1) (fun _ _ => rfl)))) pss_nil)
      (pss_one (ps_ret pe_int)), ?_⟩
    refine ⟨_, rfl, _, rfl, a, _, rfl, .inl ha, _, _, rfl, rfl, _, rfl, ?_⟩
    refine ite2 (fun h => ?_) (fun h => ?_)
    · have h : (kk : Int) < ((ns.map V.int).length : Int) := of_decide_eq_true h
      have h2 : kk < ns.length := by
        rw [List.length_map] at h
        omega
      refine ⟨_, rfl, _, rfl, a, _, _, .int (ns.getD kk 0), rfl, rfl, ha, atI_nat (by rw [List.getElem?_map, getD_some h2]; rfl), k _⟩
    · exact k 0
abbrev sRich : Stmt := top 35
theorem scRich : FnScope ["_law_cell_here", "_law_low", "_law_high"] ["_law_cell_here"] (defScope sRich) := ⟨rfl, rfl, rfl, by decide +kernel, rfl, by decide +kernel, by decide +kernel⟩
def spRich : Sp := fun vs H Q _ => ∃ c : Int, vs = [.int c] ∧ ∀ z : Int, Q (.int z) H
theorem ok_rich {f : Addr} {fd : FuncData} (T : Bt mg) (F : Fun K "_law_rich" "_law_rich" sRich f fd) : FnOk P w K mg base CX0 1 f fd ["_law_cell_here"] spRich := by
  refine F.ok scRich (fun vs H Q E h => ?_) (fun cdv A outer s H vs Q E hr h => ?_)
  · obtain ⟨c, rfl, _⟩ := h
    rfl
  · obtain ⟨c, rfl, k⟩ := h
    refine ⟨_, pss_cons (ps_if (pt_cmpR op_ge (pv 0) (pe_op op_pow pe_int pe_int) (nomark _)) (pss_one (ps_ret (pv 0))) pss_nil)
      (pss_cons (ps_set (i := 1) scRich.nd rfl (Or.inl rfl) (pe_op op_modN (pe_callTy call_int1 (by rfl) T.int (by decide +kernel) (pa_cons (pe_op op_add (pe_op op_mul (pv 0) pe_int) pe_int) pa_nil)) pe_int))
      (pss_cons (ps_set (i := 2) scRich.nd rfl (Or.inl rfl) (pe_op op_modN (pe_callTy call_int1 (by rfl) T.int (by decide +kernel) (pa_cons (pe_op op_add (pe_op op_add (pe_op op_mul (pv 1) pe_int) (pe_op op_fdivN (pv 0) pe_int)) pe_int) pa_nil)) pe_int))
      (pss_one (ps_ret (pe_op op_add (pe_op op_mul (pv 1) pe_int) (pv 2)))))), ?_⟩
    refine ⟨_, rfl, _, _, rfl, rfl, ⟨by decide, by decide, by decide⟩, _, _, rfl, rfl, _, rfl, ?_⟩
    refine ite2 (fun h => ?_) (fun h => ?_)
    · exact ⟨_, rfl, k c⟩
    · refine ⟨_, rfl, _, _, rfl, rfl, .inr ⟨by decide, by decide⟩, _, _, rfl, rfl, .inl ⟨_, rfl, _, _, rfl, rfl, (by show (2147483647 : Int) ≠ 0; decide), ?_⟩⟩
      refine ⟨_, rfl, _, _, rfl, rfl, .inr ⟨by decide, by decide⟩, _, rfl, _, _, rfl, rfl, ⟨by decide, by decide⟩, _, _, rfl, rfl, _, _, rfl, rfl, .inl ⟨_, rfl, _, _, rfl, rfl, (by show (2147483629 : Int) ≠ 0; decide), ?_⟩⟩
      exact ⟨_, rfl, _, _, rfl, rfl, .inr ⟨by decide, by decide⟩, _, rfl, _, _, rfl, rfl, k _⟩
abbrev sDig : Stmt := top 34
theorem scDig : FnScope ["_law_cell_here", "_law_sizes", "_law_row_here", "_law_size"] ["_law_cell_here", "_law_sizes"] (defScope sDig) := ⟨rfl, rfl, rfl, by decide +kernel, rfl, by decide +kernel, by decide +kernel⟩
def spDig : Sp := fun vs H Q _ => ∃ (c : Int) (l : Addr) (ss : List Int), vs = [.int c, .ref l] ∧ H l = some (.lst (ss.map V.int)) ∧ ss.length ≤ 1000 ∧ (∀ s, s ∈ ss → 0 < s ∧ s < 1000000) ∧
  ∀ (H' : Hp) (p : Addr) (ds : List Int), Same H H' → H p = none → H' p = some (.lst (ds.map V.int)) → ds.length = ss.length → (∀ i, i < ss.length → 0 ≤ ds.getD i 0 ∧ ds.getD i 0 < ss.getD i 0) → Q (.ref p) H'
theorem fmod_bd {i j : Int} (h : 0 < j) : 0 ≤ i.fmod j ∧ i.fmod j < j := ⟨Int.fmod_nonneg_of_pos _ h, Int.fmod_lt_of_pos _ h⟩
theorem ok_dig {f : Addr} {fd : FuncData} (T : Bt mg) (F : Fun K "_law_digits" "_law_digits" sDig f fd) : FnOk P w K mg base CX0 1 f fd ["_law_cell_here", "_law_sizes"] spDig := by
  refine F.ok scDig (fun vs H Q E h => ?_) (fun cdv A outer s H vs Q E hr h => ?_)
  · obtain ⟨c, l, ss, rfl, _⟩ := h
    rfl
  · obtain ⟨c, l, ss, rfl, hl, len, hs, k⟩ := h
    refine ⟨_, pss_cons (ps_set (i := 2) scDig.nd rfl (Or.inl rfl) (pe_lst pa_nil))
      (pss_cons (ps_for PassesOwn.never rfl (pi_list (pv 1)) (pg_name (i := 3) scDig.nd rfl (Or.inl rfl))
        (pss_cons (ps_expr (pe_bm PySem.F.plainAttrs_list PySem.F.slot_list_append PySem.F.type_list_append mt_append (pv 2) (pa_cons (pe_op op_modN (pe_callTy call_int1 (by rfl) T.int (by decide +kernel) (pa_cons (pv 0) pa_nil)) (pv 3)) pa_nil)))
        (pss_one (ps_set (i := 0) scDig.nd rfl (Or.inl rfl) (pe_op op_fdivN (pv 0) (pv 3))))))
      (pss_one (ps_ret (pv 2)))), ?_⟩
    refine ⟨Nat.zero_le _, fun o no => ?_⟩
    have so : ∀ u, Same H (upd H o u) := fun u => same_upd no
    refine ⟨_, rfl, l, rfl, ⟨_, .inl (.inl (so _ _ _ hl))⟩, for_list (K := K) (a := l) (xs := ss.map V.int) (fun i σ H' => ∃ (c : Int) (v3 : Option V) (ds : List Int), σ = [some (.int c), some (.ref l), some (.ref o), v3] ∧ H' = upd H o (.lst (ds.map V.int)) ∧ ds.length = i ∧
        ∀ j, j < i → 0 ≤ ds.getD j 0 ∧ ds.getD j 0 < ss.getD j 0)
      ⟨c, none, [], rfl, rfl, rfl, fun j hj => absurd hj (Nat.not_lt_zero j)⟩ (fun i σ H' _ ⟨_, _, _, _, e, _⟩ => by rw [e]; exact .inl (.inl (so _ _ _ hl))) ?_ ?_⟩
    · rintro i x σ H' hi ⟨c, v3, ds, rfl, rfl, ld, hd⟩
      rw [List.getElem?_map] at hi
      obtain ⟨z, hz, rfl⟩ := Option.map_eq_some_iff.mp hi
      have li := (List.getElem?_eq_some_iff.mp hz).1
      obtain ⟨z1, z2⟩ := hs z (List.mem_of_getElem? hz)
      refine ⟨_, rfl, .inl ⟨rfl, _, SqL.of upd_same⟩, _, rfl, .inl ⟨_, rfl, _, rfl, _, _, rfl, rfl, by omega, o, _, _, rfl, rfl, upd_same, lt_line (by rw [List.length_map]; omega), ?_⟩⟩
      refine ⟨_, rfl, _, rfl, _, _, rfl, rfl, ⟨by omega, by omega⟩, ?_⟩
      refine ⟨_, _, ds ++ [c.fmod z], rfl, ?_, by rw [List.length_append, ld]; rfl, fun j hj => ?_⟩
      · rw [upd_upd, List.map_append]
        rfl
      · by_cases e : j = i
        · subst e
          have e1 : (ds ++ [c.fmod z]).getD j 0 = c.fmod z := TR.getD_at (by rw [← ld, List.getElem?_append_right (Nat.le_refl _), Nat.sub_self]; rfl)
          rw [e1, TR.getD_at hz]
          exact fmod_bd z1
        · rw [show (ds ++ [c.fmod z]).getD j 0 = ds.getD j 0 from TR.getD_at (by rw [List.getElem?_append_left (by omega)]; exact getD_some (by omega))]
          exact hd j (by omega)
    · rintro σ H' ⟨c, v3, ds, rfl, rfl, ld, hd⟩
      rw [List.length_map] at ld hd
      exact ⟨_, rfl, k _ o ds (so _) no upd_same ld hd⟩
abbrev sIsI : Stmt := top 39
theorem scIsI : FnScope ["_law_actual"] ["_law_actual"] (defScope sIsI) := ⟨rfl, rfl, rfl, by decide +kernel, rfl, by decide +kernel, by decide +kernel⟩
def spIsI : Sp := fun vs H Q _ => ∃ z : Int, vs = [.int z] ∧ Q (.bl true) H
theorem ok_isI {f : Addr} {fd : FuncData} (T : Bt mg) (F : Fun K "_law_is_integer" "_law_is_integer" sIsI f fd) : FnOk P w K mg base CX0 1 f fd ["_law_actual"] spIsI := by
  refine F.ok scIsI (fun vs H Q E h => ?_) (fun cdv A outer s H vs Q E hr h => ?_)
  · obtain ⟨z, rfl, _⟩ := h
    rfl
  · obtain ⟨z, rfl, k⟩ := h
    refine ⟨_, pss_one (ps_ret (pe_and (pe_callB call_isi (by rfl) T.isin PyProof.Rows.boot_isinstance (pa_cons (pv 0) (pa_cons (pe_bltn (v := .ty "int") (by rfl) T.int PyProof.Rows.boot_int rfl) pa_nil)))
      (pe_one (pe_not (pe_callB call_isi (by rfl) T.isin PyProof.Rows.boot_isinstance (pa_cons (pv 0) (pa_cons (pe_bltn (v := .ty "bool") (by rfl) T.bool PyProof.Rows.boot_bool rfl) pa_nil))))))), ?_⟩
    refine ⟨_, rfl, _, _, _, _, true, rfl, .ty _, .base (.int z), kit_ty (by decide +kernel), _, rfl, iteT (B := True) ?_⟩
    exact ⟨_, rfl, _, _, _, _, false, rfl, .ty _, .base (.int z), kit_ty (by decide +kernel), _, rfl, k⟩
end
end TW

/-! W17 -/
namespace TW
open PySem L2
section
variable {P : Program} {w : World} {K : PySem.W.Frag} {mg : Str → Option Value} {base : Heap}
theorem erase_perm {α : Type} : ∀ {xs : List α} {k : Nat} {y : α}, xs[k]? = some y → xs.Perm (y :: xs.eraseIdx k)
  | [], _, _, h => by cases h
  | x :: r, 0, y, h => by
    have e : x = y := Option.some.inj h
    rw [e]
    exact .refl _
  | x :: r, k + 1, y, h => by
    have ih := erase_perm (xs := r) (k := k) (y := y) h
    exact (ih.cons x).trans (List.Perm.swap y x _)
theorem erase_map {xs : List Int} {k : Nat} : (xs.map V.int).eraseIdx k = (xs.eraseIdx k).map V.int := by
  induction xs generalizing k with
  | nil => rfl
  | cons x r ih =>
    cases k with
    | zero => rfl
    | succ k => show V.int x :: (r.map V.int).eraseIdx k = V.int x :: (r.eraseIdx k).map V.int; rw [ih]
theorem onesI_len (n : Nat) : (onesI n).length = n := by
  unfold onesI
  rw [List.length_map, List.length_range]
theorem onesI_succ (n : Nat) : onesI (n + 1) = onesI n ++ [1 + (n : Int)] := by
  unfold onesI
  rw [List.range_succ, List.map_append]
  rfl
abbrev sRow : Stmt := top 36
theorem scRow : FnScope ["_law_cell_here", "_law_n", "_law_k", "_law_left", "_law_rest", "_law_row_here"] ["_law_cell_here", "_law_n"] (defScope sRow) := ⟨rfl, rfl, rfl, by decide +kernel, rfl, by decide +kernel, by decide +kernel⟩
def spRow : Sp := fun vs H Q _ => ∃ (c : Int) (n : Nat), vs = [.int c, .int (n : Int)] ∧ n ≤ 40 ∧ ∀ (H' : Hp) (p : Addr) (r : List Int), Same H H' → H p = none → H' p = some (rowO r) → r.Perm (onesI n) → Q (.ref p) H'
theorem ok_row {f fR : Addr} {fd fdR : FuncData} (T : Bt mg) (F : Fun K "_law_row" "_law_row" sRow f fd) (GR : FnOk P w K mg base CX0 1 fR fdR ["_law_cell_here"] spRich) (kR : PySem.W.keepIn K (.ref fR) = true) (bR : Binds K fdR ["_law_cell_here"] []) (gR : mg "_law_rich" = some (.ref fR)) :
    FnOk P w K mg base CX0 2 f fd ["_law_cell_here", "_law_n"] spRow := by
  refine F.ok scRow (fun vs H Q E h => ?_) (fun cdv A outer s H vs Q E hr h => ?_)
  · obtain ⟨c, n, rfl, _⟩ := h
    rfl
  · obtain ⟨c, n, rfl, hn, k⟩ := h
    refine ⟨_, pss_cons (ps_setLc (i := 3) (own := [("_law_k", 2)]) (g := gName 2) (by rfl) scRow.nd rfl rfl (sw_true rfl rfl rfl (by decide +kernel)) (pi_range1 rfl T.range (pa_cons (pv 1) pa_nil))
        (blkOk_by (own := [("_law_k", 2)]) (N := ["_law_cell_here", "_law_n", "_law_k", "_law_left", "_law_rest", "_law_row_here"]) (sc := defScope sRow) (by decide +kernel)) (fun _ _ _ _ _ => pg_name (i := 2) scRow.nd rfl (Or.inl rfl))
        (fun _ _ _ _ _ => pts_nil) (fun _ _ _ _ _ => pe_op op_add (pv 2) pe_int))
      (pss_cons (ps_set (i := 4) scRow.nd rfl (Or.inl rfl) (pe_call GR hr (by rfl) gR kR bR .nil pass0 (pa_cons (pv 0) pa_nil)))
      (pss_cons (ps_set (i := 5) scRow.nd rfl (Or.inl rfl) (pe_lst pa_nil))
      (pss_cons (ps_for PassesOwn.never rfl (pi_range1 rfl T.range (pa_cons (pv 1) pa_nil)) (pg_name (i := 2) scRow.nd rfl (Or.inl rfl))
        (pss_cons (ps_expr (pe_bm PySem.F.plainAttrs_list PySem.F.slot_list_append PySem.F.type_list_append mt_append (pv 5) (pa_cons
            (pe_bm PySem.F.plainAttrs_list PySem.F.slot_list_pop PySem.F.type_list_pop mt_popAt (pv 3) (pa_cons (pe_op op_modN (pe_callTy call_int1 (by rfl) T.int (by decide +kernel) (pa_cons (pv 4) pa_nil)) (pe_op op_sub (pv 1) (pv 2))) pa_nil)) pa_nil)))
        (pss_one (ps_set (i := 4) scRow.nd rfl (Or.inl rfl) (pe_op op_fdivN (pv 4) (pe_op op_sub (pv 1) (pv 2)))))))
      (pss_one (ps_ret (pe_callTy call_tuple_of (by rfl) T.tuple (by decide +kernel) (pa_cons (pv 5) pa_nil))))))), ?_⟩
    refine ⟨_, rfl, _, rfl, by omega, by omega, ?_⟩
    rw [show ((n : Nat) : Int).toNat = n from Int.toNat_natCast n]
    intro l hl
    have sl : ∀ u, Same H (upd H l u) := fun u => same_upd hl
    refine lc_range (lo := 0) (n := n) (fun i H' => H' = upd H l (.lst ((onesI i).map V.int))) rfl ?_ ?_
    · rintro i H' hi rfl
      refine ⟨rfl, iteT (B := True) ?_⟩
      refine ⟨_, rfl, _, _, rfl, rfl, _, upd_same, lt_line (by rw [List.length_map, onesI_len]; omega), ?_⟩
      rw [upd_upd, onesI_succ, List.map_append]
      show upd H l (.lst (_ ++ [V.int (0 + (i : Int) + 1)])) = upd H l (.lst (_ ++ [V.int (1 + (i : Int))]))
      rw [show 0 + (i : Int) + 1 = 1 + (i : Int) by omega]
    · rintro H' rfl
      refine ⟨_, rfl, c, rfl, fun z => ?_⟩
      refine ⟨Nat.zero_le _, fun o no => ?_⟩
      have no0 := (sl _).free no
      have nlo : l ≠ o := fun e => by
        rw [← e, upd_same] at no
        cases no
      refine ⟨_, rfl, _, rfl, by omega, by omega, ?_⟩
      rw [show ((n : Nat) : Int).toNat = n from Int.toNat_natCast n]
      refine for_range (lo := 0) (n := n) (fun i σ H' => ∃ (v2 : Option V) (z : Int) (ls rs : List Int), σ = [some (.int c), some (.int (n : Int)), v2, some (.ref l), some (.int z), some (.ref o)] ∧ Same H H' ∧ H' l = some (.lst (ls.map V.int)) ∧ H' o = some (.lst (rs.map V.int)) ∧
          ls.length = n - i ∧ rs.length = i ∧ (rs ++ ls).Perm (onesI n))
        ⟨_, z, onesI n, [], rfl, (sl _).trans (same_upd no), same_upd no _ _ upd_same, upd_same, onesI_len n, rfl, .refl _⟩ ?_ ?_
      · rintro i σ H' hi ⟨v2, z, ls, rs, rfl, sm, hls, hrs, l1, l2, pm⟩
        have e0 : (0 : Int) + (i : Int) = (i : Int) := by omega
        rw [e0]
        have bd := fmod_bd (i := z) (show (0 : Int) < (n : Int) - (i : Int) by omega)
        have ix : ixN ls.length (z.fmod ((n : Int) - (i : Int))) = some (z.fmod ((n : Int) - (i : Int))).toNat := by
          unfold ixN
          rw [if_pos bd.1, if_pos (by rw [l1]; omega)]
        obtain ⟨s1, s2, _, _⟩ := ixN_seq ix
        obtain ⟨y, hy⟩ : ∃ y, ls[(z.fmod ((n : Int) - (i : Int))).toNat]? = some y := ⟨_, List.getElem?_eq_getElem s2⟩
        refine ⟨_, rfl, .inl ⟨rfl, _, SqL.of hrs⟩, _, rfl, .inl ⟨rfl, _, SqL.of hls⟩, _, rfl, .inl ⟨_, rfl, _, rfl, _, rfl, _, _, rfl, rfl, _, _, rfl, rfl, by omega, ?_⟩⟩
        refine ⟨l, _, _, (z.fmod ((n : Int) - (i : Int))).toNat, .int y, rfl, rfl, hls, by omega, by omega, by rw [List.length_map]; exact s1, by rw [List.getElem?_map, hy]; rfl, ?_⟩
        rw [erase_map]
        refine ⟨o, _, _, rfl, rfl, Eq.trans (upd_ne nlo.symm) hrs, lt_line (by rw [List.length_map]; omega), ?_⟩
        refine ⟨_, rfl, _, rfl, _, rfl, _, _, rfl, rfl, _, _, rfl, rfl, ⟨by omega, by omega⟩, ?_⟩
        refine ⟨_, _, ls.eraseIdx (z.fmod ((n : Int) - (i : Int))).toNat, rs ++ [y], rfl, fun c u e => ?_, ?_, ?_, ?_, by rw [List.length_append, l2]; rfl, ?_⟩
        · rw [upd_ne (ne_of_none e no0), upd_ne (ne_of_none e hl)]
          exact sm _ _ e
        · rw [upd_ne nlo, upd_same]
        · rw [upd_same, List.map_append]
          rfl
        · rw [List.length_eraseIdx_of_lt s2]
          omega
        · rw [List.append_assoc]
          exact ((erase_perm hy).symm.append_left rs).trans pm
      · rintro σ H' ⟨v2, z, ls, rs, rfl, sm, hls, hrs, l1, l2, pm⟩
        refine ⟨_, rfl, o, _, rfl, .inl ⟨.inl (.inl hrs), fun p np => ?_⟩⟩
        have e : ls = [] := List.length_eq_zero_iff.mp (by omega)
        rw [e, List.append_nil] at pm
        exact k _ p rs (sm.trans (same_upd np)) (sm.free np) upd_same pm
abbrev sSgn : Stmt := top 37
theorem scSgn : FnScope ["_law_cell_here", "_law_n", "_law_signs", "_law_row_here", "_law_number"] ["_law_cell_here", "_law_n"] (defScope sSgn) := ⟨rfl, rfl, rfl, by decide +kernel, rfl, by decide +kernel, by decide +kernel⟩
def spSR : Sp := fun vs H Q _ => ∃ (c : Int) (n : Nat), vs = [.int c, .int (n : Int)] ∧ 1 ≤ n ∧ n ≤ 40 ∧ ∀ (H' : Hp) (p : Addr) (r : List Int), Same H H' → H p = none → H' p = some (rowO r) → TR.SR n r → Q (.ref p) H'
theorem sr_of_abs {n : Nat} {r b : List Int} (h : b.Perm (onesI n)) (e : r.map Int.natAbs = b.map Int.natAbs) : TR.SR n r := by
  refine TR.SR.of_perm ?_
  rw [e]
  have q := h.map Int.natAbs
  have e2 : (onesI n).map Int.natAbs = List.range' 1 n := by
    unfold onesI
    rw [List.range'_eq_map_range, List.map_map]
    refine List.map_congr_left fun k _ => ?_
    show (1 + (k : Int)).natAbs = 1 + k
    omega
  rwa [e2] at q
theorem ok_sgn {f fR fW : Addr} {fd fdR fdW : FuncData} (T : Bt mg) (F : Fun K "_law_signed" "_law_signed" sSgn f fd) (GR : FnOk P w K mg base CX0 1 fR fdR ["_law_cell_here"] spRich) (kR : PySem.W.keepIn K (.ref fR) = true) (bR : Binds K fdR ["_law_cell_here"] []) (gR : mg "_law_rich" = some (.ref fR))
    (GW : FnOk P w K mg base CX0 2 fW fdW ["_law_cell_here", "_law_n"] spRow) (kW : PySem.W.keepIn K (.ref fW) = true) (bW : Binds K fdW ["_law_cell_here", "_law_n"] []) (gW : mg "_law_row" = some (.ref fW)) :
    FnOk P w K mg base CX0 3 f fd ["_law_cell_here", "_law_n"] spSR := by
  refine F.ok scSgn (fun vs H Q E h => ?_) (fun cdv A outer s H vs Q E hr h => ?_)
  · obtain ⟨c, n, rfl, _⟩ := h
    rfl
  · obtain ⟨c, n, rfl, h1n, hn, k⟩ := h
    have hr1 : Room 1 _ := hr.mono (by decide)
    refine ⟨_, pss_cons (ps_set (i := 2) scSgn.nd rfl (Or.inl rfl) (pe_call GR hr1 (by rfl) gR kR bR .nil pass0 (pa_cons (pe_op op_add (pe_op op_fdivN (pv 0) pe_int) pe_int) pa_nil)))
      (pss_cons (ps_if (pt_cmpR op_eq (pe_op op_modN (pe_callTy call_int1 (by rfl) T.int (by decide +kernel) (pa_cons (pv 0) pa_nil)) pe_int) pe_int (nomark _)) (pss_one (ps_set (i := 2) scSgn.nd rfl (Or.inl rfl) pe_int)) pss_nil)
      (pss_cons (ps_set (i := 3) scSgn.nd rfl (Or.inl rfl) (pe_lst pa_nil))
      (pss_cons (ps_for PassesOwn.never rfl (pi_tup (pe_call GW hr (by rfl) gW kW bW .nil pass0 (pa_cons (pe_op op_fdivN (pv 0) pe_int) (pa_cons (pv 1) pa_nil)))) (pg_name (i := 4) scSgn.nd rfl (Or.inl rfl))
        (pss_cons (ps_expr (pe_bm PySem.F.plainAttrs_list PySem.F.slot_list_append PySem.F.type_list_append mt_append (pv 3) (pa_cons
            (pe_ix ix_list (pe_lst (pa_cons (pv 4) (pa_cons (pe_un un_neg (pv 4)) pa_nil))) (pe_op op_modN (pe_callTy call_int1 (by rfl) T.int (by decide +kernel) (pa_cons (pv 2) pa_nil)) pe_int) (fun _ _ => rfl)) pa_nil)))
        (pss_one (ps_set (i := 2) scSgn.nd rfl (Or.inl rfl) (pe_op op_fdivN (pv 2) pe_int)))))
      (pss_one (ps_ret (pe_callTy call_tuple_of (by rfl) T.tuple (by decide +kernel) (pa_cons (pv 3) pa_nil))))))), ?_⟩
    refine ⟨_, rfl, _, _, rfl, rfl, ⟨by decide, by decide⟩, _, _, rfl, rfl, _, rfl, fun z => ?_⟩
    refine ⟨_, rfl, .inl ⟨_, rfl, _, _, rfl, rfl, (by show (3 : Int) ≠ 0; decide), rfl, _, rfl, ?_⟩⟩
    refine ite2 (fun _ => ?_) (fun _ => ?_)
    all_goals
      refine ⟨Nat.zero_le _, fun o no => ?_⟩
      have so : ∀ u, Same H (upd H o u) := fun u => same_upd no
      refine ⟨_, rfl, _, _, rfl, rfl, ⟨by decide, by decide⟩, _, rfl, _, n, rfl, hn, fun H1 t b s1 nt ht pm => ?_⟩
      have lb : b.length = n := by rw [pm.length_eq, onesI_len]
      refine ⟨t, rfl, ⟨_, SqT.of ht⟩, for_tup (K := K) (a := t) (xs := b.map V.int) (fun i σ H' => ∃ (v4 : Option V) (z : Int) (rs : List Int), σ = [some (.int c), some (.int (n : Int)), some (.int z), some (.ref o), v4] ∧ Same H H' ∧ H' t = some (rowO b) ∧ H' o = some (.lst (rs.map V.int)) ∧
          rs.map Int.natAbs = (b.take i).map Int.natAbs)
        ⟨none, _, [], rfl, (so _).trans s1, ht, s1 _ _ upd_same, rfl⟩ (fun i σ H' _ ⟨_, _, _, _, _, h, _⟩ => SqT.of h) ?_ ?_⟩
      · rintro i x σ H' hi ⟨v4, z, rs, rfl, sm, hb, hrs, eab⟩
        rw [List.getElem?_map] at hi
        obtain ⟨y, hy, rfl⟩ := Option.map_eq_some_iff.mp hi
        have li := (List.getElem?_eq_some_iff.mp hy).1
        have lr : rs.length = i := by
          have := congrArg List.length eab
          rw [List.length_map, List.length_map, List.length_take] at this
          omega
        have bd := fmod_bd (i := z) (show (0 : Int) < 2 by decide)
        refine ⟨_, rfl, .inl ⟨rfl, _, SqL.of hrs⟩, _, rfl, _, rfl, _, rfl, (by show 2 ≤ sizeLine; decide), fun q nq => ?_⟩
        have noq : o ≠ q := ne_of_none hrs nq
        have ntq : t ≠ q := ne_of_none hb nq
        have pick : ∃ v, atI [V.int y, V.int (-y)] (z.fmod 2) = some (.int v) ∧ v.natAbs = y.natAbs := by
          rcases (show z.fmod 2 = 0 ∨ z.fmod 2 = 1 by omega) with e | e
          · rw [e]
            exact ⟨y, rfl, rfl⟩
          · rw [e]
            exact ⟨-y, rfl, Int.natAbs_neg y⟩
        obtain ⟨v, v1, v2⟩ := pick
        refine ⟨_, rfl, .inl ⟨_, rfl, _, _, rfl, rfl, (by show (2 : Int) ≠ 0; decide), q, _, _, .int v, rfl, rfl, .inl (.inl upd_same), v1, ?_⟩⟩
        refine ⟨o, _, _, rfl, rfl, Eq.trans (upd_ne noq) hrs, lt_line (by rw [List.length_map]; omega), ?_⟩
        refine ⟨_, rfl, _, _, rfl, rfl, ⟨by decide, by decide⟩, ?_⟩
        refine ⟨_, _, rs ++ [v], rfl, fun c u e => ?_, ?_, ?_, ?_⟩
        · rw [upd_ne (ne_of_none e no)]
          exact same_upd nq _ _ (sm _ _ e)
        · rw [upd_ne (ne_of hb hrs (by intro z; cases z)), upd_ne ntq]
          exact hb
        · rw [upd_same, List.map_append]
          rfl
        · rw [List.take_add_one, hy, List.map_append, List.map_append, eab]
          show _ ++ [v.natAbs] = _ ++ [y.natAbs]
          rw [v2]
      · rintro σ H' ⟨v4, z, rs, rfl, sm, hb, hrs, eab⟩
        rw [List.length_map, List.take_length] at eab
        refine ⟨_, rfl, o, _, rfl, .inl ⟨.inl (.inl hrs), fun p np => ?_⟩⟩
        exact k _ p rs (sm.trans (same_upd np)) (sm.free np) upd_same (sr_of_abs pm eab)
abbrev sTrn : Stmt := top 38
theorem scTrn : FnScope ["_law_row_here", "_law_i", "_law_j", "_law_cells", "_law_k"] ["_law_row_here", "_law_i", "_law_j"] (defScope sTrn) := ⟨rfl, rfl, rfl, by decide +kernel, rfl, by decide +kernel, by decide +kernel⟩
def spTrn : Sp := fun vs H Q _ => ∃ (a : Addr) (r : List Int) (i j : Nat), vs = [.ref a, .int (i : Int), .int (j : Int)] ∧ H a = some (rowO r) ∧ i ≤ j ∧ j < r.length ∧ r.length ≤ 40 ∧
  ∀ (H' : Hp) (p : Addr) (r' : List Int), Same H H' → H p = none → H' p = some (rowO r') → TR.isTurned i j r r' → Q (.ref p) H'
theorem getD_set {l : List Int} {k m : Nat} {v : Int} (h : k < l.length) : (l.set k v).getD m 0 = if m = k then v else l.getD m 0 := by
  rw [List.getD_eq_getElem?_getD, List.getElem?_set, List.getD_eq_getElem?_getD]
  by_cases e : k = m
  · subst e
    rw [if_pos rfl, if_pos h, if_pos rfl]
    rfl
  · rw [if_neg e, if_neg fun q => e q.symm]
theorem ok_trn {f : Addr} {fd : FuncData} (T : Bt mg) (F : Fun K "_law_turned" "_law_turned" sTrn f fd) : FnOk P w K mg base CX0 1 f fd ["_law_row_here", "_law_i", "_law_j"] spTrn := by
  refine F.ok scTrn (fun vs H Q E h => ?_) (fun cdv A outer s H vs Q E hr h => ?_)
  · obtain ⟨a, r, i, j, rfl, _⟩ := h
    rfl
  · obtain ⟨a, r, i, j, rfl, ha, hij, hj, hn, k⟩ := h
    refine ⟨_, pss_cons (ps_set (i := 3) scTrn.nd rfl (Or.inl rfl) (pe_callTy call_list_of (by rfl) T.list (by decide +kernel) (pa_cons (pv 0) pa_nil)))
      (pss_cons (ps_for PassesOwn.never rfl (pi_range2 (by rfl) T.range (pa_cons (pv 1) (pa_cons (pe_op op_add (pv 2) pe_int) pa_nil))) (pg_name (i := 4) scTrn.nd rfl (Or.inl rfl))
        (pss_one (ps_asg (pe_op op_sub pe_int (pe_ix ix_tup (pv 0) (pe_op op_sub (pe_op op_add (pv 1) (pv 2)) (pv 4)) (fun _ _ => rfl))) (pg_sub (pv 3) (pv 4) set_list))))
      (pss_one (ps_ret (pe_callTy call_tuple_of (by rfl) T.tuple (by decide +kernel) (pa_cons (pv 3) pa_nil))))), ?_⟩
    refine ⟨_, rfl, a, _, rfl, .inr (SqT.of ha), fun l nl => ?_⟩
    have sl : ∀ u, Same H (upd H l u) := fun u => same_upd nl
    refine ⟨_, rfl, _, rfl, _, _, rfl, rfl, _, _, rfl, ⟨by omega, by omega, by omega, by omega⟩, ?_⟩
    rw [show ((j : Int) + 1 - (i : Int)).toNat = j + 1 - i by omega]
    refine for_range (lo := (i : Int)) (n := j + 1 - i) (fun m σ H' => ∃ (v4 : Option V) (cs : List Int), σ = [some (.ref a), some (.int (i : Int)), some (.int (j : Int)), some (.ref l), v4] ∧ H' = upd H l (.lst (cs.map V.int)) ∧ cs.length = r.length ∧
        ∀ q, q < r.length → cs.getD q 0 = if i ≤ q ∧ q < i + m then - r.getD (i + j - q) 0 else r.getD q 0)
      ⟨none, r, rfl, rfl, rfl, fun q _ => by rw [if_neg (by omega)]⟩ ?_ ?_
    · rintro m σ H' hm ⟨v4, cs, rfl, rfl, lc, hc⟩
      have e0 : (i : Int) + (m : Int) = ((i + m : Nat) : Int) := by omega
      have e1 : (i : Int) + (j : Int) - ((i : Int) + (m : Int)) = ((j - m : Nat) : Int) := by omega
      have at_ : (r.map V.int)[j - m]? = some (.int (r.getD (j - m) 0)) := by rw [List.getElem?_map, getD_some (by omega)]; rfl
      refine ⟨_, rfl, _, rfl, _, rfl, _, _, rfl, rfl, _, rfl, _, _, rfl, rfl, a, _, _, _, rfl, rfl, SqT.of (sl _ _ _ ha), (by rw [e1]; exact atI_nat at_), _, _, rfl, rfl, ?_⟩
      have ix : ixN (cs.map V.int).length ((i : Int) + (m : Int)) = some (i + m) := by
        unfold ixN
        rw [List.length_map, if_pos (by omega), if_pos (by omega)]
        rw [e0]
        rfl
      refine ⟨_, rfl, _, rfl, l, _, _, i + m, rfl, rfl, upd_same, ix, ?_⟩
      refine ⟨_, cs.set (i + m) (0 - r.getD (j - m) 0), rfl, ?_, by rw [List.length_set]; exact lc, fun q hq => ?_⟩
      · rw [upd_upd, List.map_set]
      · rw [getD_set (by omega), hc q hq]
        by_cases e : q = i + m
        · rw [if_pos e, if_pos (by omega), e, show i + j - (i + m) = j - m by omega]
          omega
        · rw [if_neg e]
          by_cases w : i ≤ q ∧ q < i + m
          · rw [if_pos w, if_pos (by omega)]
          · rw [if_neg w, if_neg (by omega)]
    · rintro σ H' ⟨v4, cs, rfl, rfl, lc, hc⟩
      refine ⟨_, rfl, l, _, rfl, .inl ⟨.inl (.inl upd_same), fun p np => ?_⟩⟩
      refine k _ p cs ((sl _).trans (same_upd np)) ((sl _).free np) upd_same ⟨lc, fun q hq => ?_⟩
      rw [hc q hq]
      by_cases w : i ≤ q ∧ q ≤ j
      · rw [if_pos (by omega), if_pos w]
      · rw [if_neg (by omega), if_neg w]
end
end TW

/-! W18 -/
namespace TW
open PySem L2
section
variable {P : Program} {w : World} {K : PySem.W.Frag} {mg : Str → Option Value} {base : Heap}
theorem sIx_pos {n d : Nat} {i : Int} (h0 : 0 ≤ i) (h1 : i ≤ n) : HT.sIx n d (some i) = i.toNat := by
  have e : HT.sIx n d (some i) = if i < 0 then (i + (n : Int)).toNat else min i.toNat n := rfl
  rw [e, if_neg (by omega)]
  omega
theorem cut_to {xs : List V} {i : Int} (h0 : 0 ≤ i) (h1 : i ≤ xs.length) : cutV xs none (some i) = xs.take i.toNat := by
  unfold cutV
  rw [sIx_pos h0 h1, HT.sIx_none, List.drop_zero, Nat.sub_zero]
theorem cut_mid {xs : List V} {i j : Int} (h0 : 0 ≤ i) (h1 : i ≤ j) (h2 : j ≤ xs.length) : cutV xs (some i) (some j) = (xs.drop i.toNat).take (j.toNat - i.toNat) := by
  unfold cutV
  rw [sIx_pos h0 (by omega), sIx_pos (by omega) h2]
theorem cut_from {xs : List V} {i : Int} (h0 : 0 ≤ i) (h1 : i ≤ xs.length) : cutV xs (some i) none = xs.drop i.toNat := by
  unfold cutV
  rw [sIx_pos h0 h1, HT.sIx_none]
  exact List.take_of_length_le (by rw [List.length_drop]; omega)
/-- two stretches change places -/
theorem mix_perm {xs : List V} {i j m : Int} (h0 : 0 ≤ i) (h1 : i ≤ j) (h2 : j ≤ m) (h3 : m < xs.length) :
    xs.Perm (((cutV xs none (some i) ++ cutV xs (some j) (some (m + 1))) ++ cutV xs (some i) (some j)) ++ cutV xs (some (m + 1)) none) := by
  rw [cut_to h0 (by omega), cut_mid (by omega) (by omega) (by omega), cut_mid h0 h1 (by omega), cut_from (by omega) (by omega)]
  have a : xs = xs.take i.toNat ++ (xs.drop i.toNat).take (j.toNat - i.toNat) ++ (xs.drop j.toNat).take ((m + 1).toNat - j.toNat) ++ xs.drop (m + 1).toNat := by
    have e1 : (xs.drop i.toNat).drop (j.toNat - i.toNat) = xs.drop j.toNat := by
      rw [List.drop_drop]
      congr 1
      omega
    have e2 : (xs.drop j.toNat).drop ((m + 1).toNat - j.toNat) = xs.drop (m + 1).toNat := by
      rw [List.drop_drop]
      congr 1
      omega
    rw [List.append_assoc, ← e2, List.take_append_drop, List.append_assoc, ← e1, List.take_append_drop, List.take_append_drop]
  conv => lhs; rw [a]
  refine List.Perm.append_right _ ?_
  rw [List.append_assoc, List.append_assoc]
  exact List.Perm.append_left _ List.perm_append_comm
theorem cut_le (xs : List V) (a b : Option Int) : (cutV xs a b).length ≤ xs.length := cutV_length xs a b
theorem cut40 {xs : List V} (h : xs.length ≤ 40) {a b : Option Int} : (cutV xs a b).length ≤ 40 := Nat.le_trans (cutV_length xs a b) h
theorem app_le {A B : List V} {k l : Nat} (h1 : A.length ≤ k) (h2 : B.length ≤ l) : (A ++ B).length ≤ k + l := by
  rw [List.length_append]
  omega
theorem cat_sz {A B : List V} {k l : Nat} (h1 : A.length ≤ k) (h2 : B.length ≤ l) (h : k + l ≤ 100000) : A.length + B.length ≤ sizeLine := Nat.le_of_lt (lt_line (by omega))
theorem min_bd {n lo x : Int} (h0 : lo < n) (hx : 0 ≤ x) : lo < (if lo + 2 + x < n then lo + 2 + x else n) ∧ (if lo + 2 + x < n then lo + 2 + x else n) ≤ n := by
  split <;> omega
abbrev sMix : Stmt := top 40
theorem scMix : FnScope ["_law_cell_here", "_law_n", "_law_k", "_law_row_here", "_law_rest", "_law_low", "_law_high", "_law_i", "_law_j", "_law_m"] ["_law_cell_here", "_law_n"] (defScope sMix) := ⟨rfl, rfl, rfl, by decide +kernel, rfl, by decide +kernel, by decide +kernel⟩
theorem ok_mix {f fR : Addr} {fd fdR : FuncData} (T : Bt mg) (F : Fun K "_law_mixed" "_law_mixed" sMix f fd) (GR : FnOk P w K mg base CX0 1 fR fdR ["_law_cell_here"] spRich) (kR : PySem.W.keepIn K (.ref fR) = true) (bR : Binds K fdR ["_law_cell_here"] []) (gR : mg "_law_rich" = some (.ref fR)) :
    FnOk P w K mg base CX0 2 f fd ["_law_cell_here", "_law_n"] spSR := by
  refine F.ok scMix (fun vs H Q E h => ?_) (fun cdv A outer s H vs Q E hr h => ?_)
  · obtain ⟨c, n, rfl, _⟩ := h
    rfl
  · obtain ⟨c, n, rfl, h1n, hn, k⟩ := h
    refine ⟨_, pss_cons (ps_setLc (i := 3) (own := [("_law_k", 2)]) (g := gName 2) (by rfl) scMix.nd rfl rfl (sw_true rfl rfl rfl (by decide +kernel)) (pi_range1 rfl T.range (pa_cons (pv 1) pa_nil))
        (blkOk_by (own := [("_law_k", 2)]) (N := ["_law_cell_here", "_law_n", "_law_k", "_law_row_here", "_law_rest", "_law_low", "_law_high", "_law_i", "_law_j", "_law_m"]) (sc := defScope sMix) (by decide +kernel)) (fun _ _ _ _ _ => pg_name (i := 2) scMix.nd rfl (Or.inl rfl))
        (fun _ _ _ _ _ => pts_nil) (fun _ _ _ _ _ => pe_op op_add (pv 2) pe_int))
      (pss_cons (ps_set (i := 4) scMix.nd rfl (Or.inl rfl) (pe_call GR hr (by rfl) gR kR bR .nil pass0 (pa_cons (pv 0) pa_nil)))
      (pss_cons (ps_set (i := 5) scMix.nd rfl (Or.inl rfl) pe_int)
      (pss_cons (ps_set (i := 6) scMix.nd rfl (Or.inl rfl) (pv 1))
      (pss_cons (ps_for PassesOwn.never rfl (pi_range1 rfl T.range (pa_cons pe_int pa_nil)) (pg_name (i := 2) scMix.nd rfl (Or.inl rfl))
        (pss_cons (ps_set (i := 7) scMix.nd rfl (Or.inl rfl) (pe_op op_add (pv 5) (pe_op op_modN (pe_callTy call_int1 (by rfl) T.int (by decide +kernel) (pa_cons (pv 4) pa_nil)) (pe_op op_sub (pv 6) (pv 5)))))
        (pss_cons (ps_set (i := 4) scMix.nd rfl (Or.inl rfl) (pe_op op_add (pe_op op_fdivN (pv 4) pe_int) (pv 2)))
        (pss_cons (ps_set (i := 8) scMix.nd rfl (Or.inl rfl) (pe_op op_add (pv 7) (pe_op op_modN (pe_callTy call_int1 (by rfl) T.int (by decide +kernel) (pa_cons (pv 4) pa_nil)) (pe_op op_sub (pv 6) (pv 7)))))
        (pss_cons (ps_set (i := 4) scMix.nd rfl (Or.inl rfl) (pe_op op_add (pe_op op_fdivN (pv 4) pe_int) (pe_op op_mul pe_int (pv 2))))
        (pss_cons (ps_set (i := 9) scMix.nd rfl (Or.inl rfl) (pe_op op_add (pv 8) (pe_op op_modN (pe_callTy call_int1 (by rfl) T.int (by decide +kernel) (pa_cons (pv 4) pa_nil)) (pe_op op_sub (pv 6) (pv 8)))))
        (pss_cons (ps_set (i := 4) scMix.nd rfl (Or.inl rfl) (pe_op op_add (pe_op op_fdivN (pv 4) pe_int) (pv 2)))
        (pss_cons (ps_if (PW.pt (pw_and (pt_cmpR op_lt (pe_op op_sub (pv 8) (pv 7)) pe_int (nomark _)) (pw_and1 (pt_cmpR op_lt (pe_op op_sub (pv 9) (pv 8)) pe_int (nomark _)))))
          (pss_one (ps_set (i := 3) scMix.nd rfl (Or.inl rfl) (pe_op op_cat (pe_op op_cat (pe_op op_cat (pe_slice sl_list (pv 3) po_none (po_some (pv 7))) (pe_slice sl_list (pv 3) (po_some (pv 8)) (po_some (pe_op op_add (pv 9) pe_int))))
            (pe_slice sl_list (pv 3) (po_some (pv 7)) (po_some (pv 8)))) (pe_slice sl_list (pv 3) (po_some (pe_op op_add (pv 9) pe_int)) po_none)))) pss_nil)
        (pss_cons (ps_set (i := 5) scMix.nd rfl (Or.inl rfl) (pe_op op_modN (pe_callTy call_int1 (by rfl) T.int (by decide +kernel) (pa_cons (pv 4) pa_nil)) (pv 1)))
        (pss_cons (ps_set (i := 6) scMix.nd rfl (Or.inl rfl) (pe_callB (call_min2 rfl) (by rfl) T.min (by decide +kernel) (pa_cons (pv 1) (pa_cons (pe_op op_add (pe_op op_add (pv 5) pe_int)
            (pe_op op_modN (pe_callTy call_int1 (by rfl) T.int (by decide +kernel) (pa_cons (pe_op op_fdivN (pv 4) (pv 1)) pa_nil)) pe_int)) pa_nil))))
        (pss_one (ps_set (i := 4) scMix.nd rfl (Or.inl rfl) (pe_op op_add (pe_op op_fdivN (pv 4) pe_int) (pe_op op_mul pe_int (pv 2)))))))))))))))
      (pss_one (ps_ret (pe_callTy call_tuple_of (by rfl) T.tuple (by decide +kernel) (pa_cons (pv 3) pa_nil)))))))), ?_⟩
    refine ⟨_, rfl, _, rfl, by omega, by omega, ?_⟩
    rw [show ((n : Nat) : Int).toNat = n from Int.toNat_natCast n]
    intro l hl
    have sl : ∀ u, Same H (upd H l u) := fun u => same_upd hl
    refine lc_range (lo := 0) (n := n) (fun i H' => H' = upd H l (.lst ((onesI i).map V.int))) rfl ?_ ?_
    · rintro i H' hi rfl
      refine ⟨rfl, iteT (B := True) ?_⟩
      refine ⟨_, rfl, _, _, rfl, rfl, _, upd_same, lt_line (by rw [List.length_map, onesI_len]; omega), ?_⟩
      rw [upd_upd, onesI_succ, List.map_append]
      show upd H l (.lst (_ ++ [V.int (0 + (i : Int) + 1)])) = upd H l (.lst (_ ++ [V.int (1 + (i : Int))]))
      rw [show 0 + (i : Int) + 1 = 1 + (i : Int) by omega]
    · rintro H' rfl
      refine ⟨_, rfl, c, rfl, fun z => ?_⟩
      refine ⟨_, rfl, ?_⟩
      refine ⟨12, rfl, by decide, by decide, ?_⟩
      refine for_range (lo := 0) (n := 12) (fun i σ H' => ∃ (v2 v7 v8 v9 : Option V) (ra : Addr) (rs : List Int) (z lo hi : Int), σ = [some (.int c), some (.int (n : Int)), v2, some (.ref ra), some (.int z), some (.int lo), some (.int hi), v7, v8, v9] ∧ Same H H' ∧
          H' ra = some (.lst (rs.map V.int)) ∧ rs.Perm (onesI n) ∧ 0 ≤ lo ∧ lo < hi ∧ hi ≤ (n : Int))
        ⟨none, none, none, none, l, onesI n, z, 0, (n : Int), rfl, sl _, upd_same, .refl _, by omega, by omega, by omega⟩ ?_ ?_
      · rintro i σ H' hi ⟨v2, v7, v8, v9, ra, rs, z, lo, hg, rfl, sm, hra, pm, b0, b1, b2⟩
        have lr : (rs.map V.int).length = n := by rw [List.length_map, pm.length_eq, onesI_len]
        -- i, j, m
        refine ⟨_, rfl, _, rfl, .inl ⟨_, rfl, _, rfl, _, rfl, _, _, rfl, rfl, _, _, rfl, rfl, by omega, _, _, rfl, rfl, ?_⟩⟩
        have bi := fmod_bd (i := z) (show 0 < hg - lo by omega)
        refine ⟨_, rfl, _, _, rfl, rfl, ⟨by decide, by decide⟩, _, rfl, _, _, rfl, rfl, ?_⟩
        refine ⟨_, rfl, _, rfl, .inl ⟨_, rfl, _, rfl, _, rfl, _, _, rfl, rfl, _, _, rfl, rfl, by omega, _, _, rfl, rfl, ?_⟩⟩
        refine ⟨_, rfl, _, _, rfl, rfl, ⟨by decide, by decide⟩, _, rfl, _, _, rfl, rfl, .inl ⟨by decide, by decide⟩, _, _, rfl, rfl, ?_⟩
        have bj := fmod_bd (i := z.fdiv 7 + (0 + (i : Int))) (show 0 < hg - (lo + z.fmod (hg - lo)) by omega)
        refine ⟨_, rfl, _, rfl, .inl ⟨_, rfl, _, rfl, _, rfl, _, _, rfl, rfl, _, _, rfl, rfl, by omega, _, _, rfl, rfl, ?_⟩⟩
        have bm := fmod_bd (i := (z.fdiv 7 + (0 + (i : Int))).fdiv 7 + 3 * (0 + (i : Int))) (show 0 < hg - (lo + z.fmod (hg - lo) + (z.fdiv 7 + (0 + (i : Int))).fmod (hg - (lo + z.fmod (hg - lo)))) by omega)
        refine ⟨_, rfl, _, _, rfl, rfl, ⟨by decide, by decide⟩, _, rfl, _, _, rfl, rfl, ?_⟩
        -- the tail, once the row stands
        have hn0 : (n : Int) ≠ 0 ∧ (n : Int).natAbs < 1073741824 := ⟨by omega, by omega⟩
        refine ⟨_, rfl, _, rfl, _, _, rfl, rfl, _, _, rfl, rfl, _, rfl, ?_⟩
        refine ite2 (fun h1 => ?_) (fun h1 => ?_)
        · refine ⟨_, rfl, _, rfl, _, _, rfl, rfl, _, _, rfl, rfl, _, rfl, ?_⟩
          refine ite2 (fun h2 => ?_) (fun h2 => ?_)
          · have mp := mix_perm (xs := rs.map V.int) (i := lo + z.fmod (hg - lo)) (j := lo + z.fmod (hg - lo) + (z.fdiv 7 + (0 + (i : Int))).fmod (hg - (lo + z.fmod (hg - lo))))
              (m := lo + z.fmod (hg - lo) + (z.fdiv 7 + (0 + (i : Int))).fmod (hg - (lo + z.fmod (hg - lo))) + ((z.fdiv 7 + (0 + (i : Int))).fdiv 7 + 3 * (0 + (i : Int))).fmod (hg - (lo + z.fmod (hg - lo) + (z.fdiv 7 + (0 + (i : Int))).fmod (hg - (lo + z.fmod (hg - lo))))))
              (by omega) (by omega) (by omega) (by rw [lr]; omega)
            have l40 : (rs.map V.int).length ≤ 40 := by omega
            refine ⟨_, rfl, _, rfl, _, rfl, ra, _, rfl, .inl (.inl hra), fun p1 n1 => ?_⟩
            refine ⟨_, rfl, _, rfl, _, rfl, _, rfl, _, _, rfl, rfl, _, rfl, ra, _, rfl, .inl (.inl (same_upd n1 _ _ hra)), fun p2 n2 => ?_⟩
            refine ⟨p1, p2, _, _, rfl, rfl, same_upd n2 _ _ upd_same, upd_same, cat_sz (cut40 l40) (cut40 l40) (by decide), fun p3 n3 => ?_⟩
            refine ⟨_, rfl, _, rfl, _, rfl, _, rfl, _, rfl, ra, _, rfl, .inl (.inl (same_upd n3 _ _ (same_upd n2 _ _ (same_upd n1 _ _ hra)))), fun p4 n4 => ?_⟩
            refine ⟨p3, p4, _, _, rfl, rfl, same_upd n4 _ _ upd_same, upd_same, cat_sz (app_le (cut40 l40) (cut40 l40)) (cut40 l40) (by decide), fun p5 n5 => ?_⟩
            refine ⟨_, rfl, _, rfl, _, _, rfl, rfl, _, rfl, ra, _, rfl, .inl (.inl (same_upd n5 _ _ (same_upd n4 _ _ (same_upd n3 _ _ (same_upd n2 _ _ (same_upd n1 _ _ hra)))))), fun p6 n6 => ?_⟩
            refine ⟨p5, p6, _, _, rfl, rfl, same_upd n6 _ _ upd_same, upd_same, cat_sz (app_le (app_le (cut40 l40) (cut40 l40)) (cut40 l40)) (cut40 l40) (by decide), fun p7 n7 => ?_⟩
            obtain ⟨rs2, pm2, er⟩ := perm_back mp rs rfl
            refine ⟨_, rfl, .inl ⟨_, rfl, _, rfl, _, _, rfl, rfl, hn0.1, ?_⟩⟩
            refine ⟨_, rfl, _, rfl, _, _, rfl, rfl, _, rfl, _, rfl, _, _, rfl, rfl, hn0, .inl ⟨_, rfl, _, _, rfl, rfl, (by show (6 : Int) ≠ 0; decide), _, _, rfl, rfl, _, _, rfl, ?_⟩⟩
            refine ⟨_, rfl, _, _, rfl, rfl, ⟨by decide, by decide⟩, _, rfl, _, _, rfl, rfl, .inl ⟨by decide, by decide⟩, _, _, rfl, rfl, ?_⟩
            have bl := fmod_bd (i := ((z.fdiv 7 + (0 + (i : Int))).fdiv 7 + 3 * (0 + (i : Int))).fdiv 5 + (0 + (i : Int))) (show (0 : Int) < (n : Int) by omega)
            have bx := fmod_bd (i := (((z.fdiv 7 + (0 + (i : Int))).fdiv 7 + 3 * (0 + (i : Int))).fdiv 5 + (0 + (i : Int))).fdiv (n : Int)) (show (0 : Int) < 6 by decide)
            have mb := min_bd bl.2 bx.1
            exact ⟨_, _, _, _, p7, rs2, _, _, _, rfl, ((((((sm.trans (same_upd n1)).trans (same_upd n2)).trans (same_upd n3)).trans (same_upd n4)).trans (same_upd n5)).trans (same_upd n6)).trans (same_upd n7), (by rw [er]; exact upd_same), pm2.symm.trans pm, bl.1, mb.1, mb.2⟩
          · refine ⟨_, rfl, .inl ⟨_, rfl, _, rfl, _, _, rfl, rfl, hn0.1, ?_⟩⟩
            refine ⟨_, rfl, _, rfl, _, _, rfl, rfl, _, rfl, _, rfl, _, _, rfl, rfl, hn0, .inl ⟨_, rfl, _, _, rfl, rfl, (by show (6 : Int) ≠ 0; decide), _, _, rfl, rfl, _, _, rfl, ?_⟩⟩
            refine ⟨_, rfl, _, _, rfl, rfl, ⟨by decide, by decide⟩, _, rfl, _, _, rfl, rfl, .inl ⟨by decide, by decide⟩, _, _, rfl, rfl, ?_⟩
            have bl := fmod_bd (i := ((z.fdiv 7 + (0 + (i : Int))).fdiv 7 + 3 * (0 + (i : Int))).fdiv 5 + (0 + (i : Int))) (show (0 : Int) < (n : Int) by omega)
            have bx := fmod_bd (i := (((z.fdiv 7 + (0 + (i : Int))).fdiv 7 + 3 * (0 + (i : Int))).fdiv 5 + (0 + (i : Int))).fdiv (n : Int)) (show (0 : Int) < 6 by decide)
            have mb := min_bd bl.2 bx.1
            exact ⟨_, _, _, _, ra, rs, _, _, _, rfl, sm, hra, pm, bl.1, mb.1, mb.2⟩
        · refine iteF ?_
          refine ⟨_, rfl, .inl ⟨_, rfl, _, rfl, _, _, rfl, rfl, hn0.1, ?_⟩⟩
          refine ⟨_, rfl, _, rfl, _, _, rfl, rfl, _, rfl, _, rfl, _, _, rfl, rfl, hn0, .inl ⟨_, rfl, _, _, rfl, rfl, (by show (6 : Int) ≠ 0; decide), _, _, rfl, rfl, _, _, rfl, ?_⟩⟩
          refine ⟨_, rfl, _, _, rfl, rfl, ⟨by decide, by decide⟩, _, rfl, _, _, rfl, rfl, .inl ⟨by decide, by decide⟩, _, _, rfl, rfl, ?_⟩
          have bl := fmod_bd (i := ((z.fdiv 7 + (0 + (i : Int))).fdiv 7 + 3 * (0 + (i : Int))).fdiv 5 + (0 + (i : Int))) (show (0 : Int) < (n : Int) by omega)
          have bx := fmod_bd (i := (((z.fdiv 7 + (0 + (i : Int))).fdiv 7 + 3 * (0 + (i : Int))).fdiv 5 + (0 + (i : Int))).fdiv (n : Int)) (show (0 : Int) < 6 by decide)
          have mb := min_bd bl.2 bx.1
          exact ⟨_, _, _, _, ra, rs, _, _, _, rfl, sm, hra, pm, bl.1, mb.1, mb.2⟩
      · rintro σ H' ⟨v2, v7, v8, v9, ra, rs, z, lo, hg, rfl, sm, hra, pm, b0, b1, b2⟩
        refine ⟨_, rfl, ra, _, rfl, .inl ⟨.inl (.inl hra), fun p np => ?_⟩⟩
        exact k _ p rs (sm.trans (same_upd np)) (sm.free np) upd_same (sr_of_abs pm rfl)
end
end TW

/-! W19 -/
namespace TW
open PySem L2
section
variable {P : Program} {w : World} {K : PySem.W.Frag} {mg : Str → Option Value} {base : Heap}
abbrev sAny : Stmt := top 41
theorem scAny : FnScope ["_law_cell_here", "_law_n", "_law_kind", "_law_row_here", "_law_at"] ["_law_cell_here", "_law_n"] (defScope sAny) := ⟨rfl, rfl, rfl, by decide +kernel, rfl, by decide +kernel, by decide +kernel⟩
theorem ok_any {f fS fM fR fT : Addr} {fd fdS fdM fdR fdT : FuncData} (T : Bt mg) (F : Fun K "_law_any_signed" "_law_any_signed" sAny f fd) (GS : FnOk P w K mg base CX0 3 fS fdS ["_law_cell_here", "_law_n"] spSR) (kS : PySem.W.keepIn K (.ref fS) = true) (bS : Binds K fdS ["_law_cell_here", "_law_n"] []) (gS : mg "_law_signed" = some (.ref fS))
    (GM : FnOk P w K mg base CX0 2 fM fdM ["_law_cell_here", "_law_n"] spSR) (kM : PySem.W.keepIn K (.ref fM) = true) (bM : Binds K fdM ["_law_cell_here", "_law_n"] []) (gM : mg "_law_mixed" = some (.ref fM))
    (GR : FnOk P w K mg base CX0 1 fR fdR ["_law_cell_here"] spRich) (kR : PySem.W.keepIn K (.ref fR) = true) (bR : Binds K fdR ["_law_cell_here"] []) (gR : mg "_law_rich" = some (.ref fR))
    (GT : FnOk P w K mg base CX0 1 fT fdT ["_law_row_here", "_law_i", "_law_j"] spTrn) (kT : PySem.W.keepIn K (.ref fT) = true) (bT : Binds K fdT ["_law_row_here", "_law_i", "_law_j"] []) (gT : mg "_law_turned" = some (.ref fT)) :
    FnOk P w K mg base CX0 4 f fd ["_law_cell_here", "_law_n"] spSR := by
  refine F.ok scAny (fun vs H Q E h => ?_) (fun cdv A outer s H vs Q E hr h => ?_)
  · obtain ⟨c, n, rfl, _⟩ := h
    rfl
  · obtain ⟨c, n, rfl, h1n, hn, k⟩ := h
    have hr2 : Room 2 _ := hr.mono (by decide)
    have hr1 : Room 1 _ := hr.mono (by decide)
    refine ⟨_, pss_cons (ps_set (i := 2) scAny.nd rfl (Or.inl rfl) (pe_op op_modN (pe_callTy call_int1 (by rfl) T.int (by decide +kernel) (pa_cons (pv 0) pa_nil)) pe_int))
      (pss_cons (ps_if (PW.pt (pw_or (pt_cmpR op_eq (pv 2) pe_int (nomark _)) (pw_or1 (pt_cmpR op_eq (pv 1) pe_int (nomark _)))))
        (pss_one (ps_ret (pe_call GS hr (by rfl) gS kS bS .nil pass0 (pa_cons (pe_op op_fdivN (pv 0) pe_int) (pa_cons (pv 1) pa_nil))))) pss_nil)
      (pss_cons (ps_set (i := 3) scAny.nd rfl (Or.inl rfl) (pe_call GM hr2 (by rfl) gM kM bM .nil pass0 (pa_cons (pe_op op_fdivN (pv 0) pe_int) (pa_cons (pv 1) pa_nil))))
      (pss_cons (ps_if (pt_cmpR op_eq (pv 2) pe_int (nomark _))
        (pss_cons (ps_set (i := 4) scAny.nd rfl (Or.inl rfl) (pe_op op_modN (pe_callTy call_int1 (by rfl) T.int (by decide +kernel) (pa_cons (pe_op op_fdivN (pe_call GR hr1 (by rfl) gR kR bR .nil pass0 (pa_cons (pv 0) pa_nil)) pe_int) pa_nil)) (pv 1)))
        (pss_one (ps_ret (pe_call GT hr1 (by rfl) gT kT bT .nil pass0 (pa_cons (pv 3) (pa_cons (pv 4) (pa_cons (pe_op op_add (pv 4) (pe_op op_modN (pe_callTy call_int1 (by rfl) T.int (by decide +kernel)
          (pa_cons (pe_op op_fdivN (pe_call GR hr1 (by rfl) gR kR bR .nil pass0 (pa_cons (pv 0) pa_nil)) pe_int) pa_nil)) (pe_op op_sub (pv 1) (pv 4)))) pa_nil))))))) pss_nil)
      (pss_one (ps_ret (pv 3)))))), ?_⟩
    refine ⟨_, rfl, .inl ⟨_, rfl, _, _, rfl, rfl, (by show (4 : Int) ≠ 0; decide), ?_⟩⟩
    have sgn : ∀ H', Same H H' → spSR [.int (c.fdiv 4), .int (n : Int)] H' Q E0 := fun H' s' => ⟨_, n, rfl, h1n, hn, fun H2 p r s2 np hp sr => k H2 p r (s'.trans s2) (s'.free np) hp sr⟩
    refine ⟨_, rfl, rfl, _, rfl, ?_⟩
    refine ite2 (fun h => ?_) (fun h => ?_)
    · refine iteT (B := True) ?_
      exact ⟨_, rfl, _, _, rfl, rfl, ⟨by decide, by decide⟩, _, rfl, sgn H (Same.refl H)⟩
    · refine ⟨_, rfl, rfl, _, rfl, ?_⟩
      refine ite2 (fun h => ?_) (fun h => ?_)
      · exact ⟨_, rfl, _, _, rfl, rfl, ⟨by decide, by decide⟩, _, rfl, sgn H (Same.refl H)⟩
      · refine ⟨_, rfl, _, _, rfl, rfl, ⟨by decide, by decide⟩, _, rfl, _, n, rfl, h1n, hn, fun H1 p r s1 np hp sr => ?_⟩
        refine ⟨_, rfl, rfl, _, rfl, ?_⟩
        refine ite2 (fun h => ?_) (fun h => ?_)
        · refine ⟨_, rfl, c, rfl, fun z => ?_⟩
          refine ⟨_, _, rfl, rfl, ⟨by decide, by decide⟩, .inl ⟨_, rfl, _, rfl, _, _, rfl, rfl, by omega, ?_⟩⟩
          have b1 := fmod_bd (i := z.fdiv 9) (show (0 : Int) < (n : Int) by omega)
          refine ⟨_, rfl, _, rfl, _, rfl, _, rfl, c, rfl, fun z2 => ?_⟩
          have b2 := fmod_bd (i := z2.fdiv 99) (show (0 : Int) < (n : Int) - (z.fdiv 9).fmod (n : Int) by omega)
          refine ⟨_, _, rfl, rfl, ⟨by decide, by decide⟩, .inl ⟨_, rfl, _, rfl, _, rfl, _, _, rfl, rfl, _, _, rfl, rfl, by omega, _, _, rfl, rfl, ?_⟩⟩
          refine ⟨p, r, ((z.fdiv 9).fmod (n : Int)).toNat, ((z.fdiv 9).fmod (n : Int) + (z2.fdiv 99).fmod ((n : Int) - (z.fdiv 9).fmod (n : Int))).toNat, ?_, hp, by omega, by rw [sr.len]; omega, by rw [sr.len]; exact hn, fun H2 q r' s2 nq hq ht => ?_⟩
          · rw [Int.toNat_of_nonneg b1.1, Int.toNat_of_nonneg (by omega)]
            rfl
          · exact k H2 q r' (s1.trans s2) (s1.free nq) hq (TR.turned_sr sr (by omega) (by omega) ht)
        · exact ⟨_, rfl, k H1 p r s1 np hp sr⟩
/-! ### the law -/
abbrev sLaw : Stmt := top 42
theorem scLaw : FnScope ["_law_script", "_law_d", "_law_n", "_law_first", "_law_second", "_law_many", "_law_k", "_law_e", "_law_told"] ["_law_script"] (defScope sLaw) := ⟨rfl, rfl, rfl, by decide +kernel, rfl, by decide +kernel, by decide +kernel⟩
def spLaw (K : PySem.W.Frag) : Sp := fun vs H Q _ => ∃ (a : Addr) (ns : List Int), vs = [.ref a] ∧ SqL K H a (ns.map V.int) ∧ ns.length ≤ 63 ∧ ∀ H', Q (.bl true) H'
theorem two_digits {ds : List Int} {n : Int} (hl : ds.length = 2) (h : ∀ i, i < 2 → 0 ≤ ds.getD i 0 ∧ ds.getD i 0 < n) : ∃ x y, ds = [x, y] ∧ 0 ≤ x ∧ x < n ∧ 0 ≤ y ∧ y < n := by
  match ds, hl with
  | [x, y], _ =>
    have h0 := h 0 (by decide)
    have h1 := h 1 (by decide)
    exact ⟨x, y, rfl, h0.1, h0.2, h1.1, h1.2⟩
theorem sz403 : ∀ s, s ∈ ([40, 3] : List Int) → 0 < s ∧ s < 1000000 := fun s hs => by
  rcases List.mem_cons.mp hs with e | e
  · omega
  · have := List.mem_singleton.mp e
    omega
theorem sznn {n : Int} (h0 : 0 < n) (h1 : n < 1000000) : ∀ s, s ∈ ([n, n] : List Int) → 0 < s ∧ s < 1000000 := fun s hs => by
  rcases List.mem_cons.mp hs with e | e
  · omega
  · have := List.mem_singleton.mp e
    omega
theorem pick3 {x y : Int} (h0 : 0 ≤ x) (h1 : x < 40) (h2 : 0 ≤ y) (h3 : y < 3) : ∃ v : Nat, v < 40 ∧ atI [V.int (x.fmod 7), V.int (x.fmod 16), V.int x] y = some (.int (v : Int)) := by
  have a := fmod_bd (i := x) (show (0 : Int) < 7 by decide)
  have b := fmod_bd (i := x) (show (0 : Int) < 16 by decide)
  rcases (show y = 0 ∨ y = 1 ∨ y = 2 by omega) with e | e | e
  · rw [e]
    exact ⟨(x.fmod 7).toNat, by omega, by rw [Int.toNat_of_nonneg a.1]; rfl⟩
  · rw [e]
    exact ⟨(x.fmod 16).toNat, by omega, by rw [Int.toNat_of_nonneg b.1]; rfl⟩
  · rw [e]
    exact ⟨x.toNat, by omega, by rw [Int.toNat_of_nonneg h0]; rfl⟩
theorem ok_law {f fC fR fD fA fT fI fL : Addr} {fd fdC fdR fdD fdA fdT fdI fdL : FuncData} (T : Bt mg) (F : Fun K "law" "law" sLaw f fd)
    (GC : FnOk P w K mg base CX0 1 fC fdC ["_law_script", "_law_k"] (spCell K)) (kC : PySem.W.keepIn K (.ref fC) = true) (bC : Binds K fdC ["_law_script", "_law_k"] []) (gC : mg "_law_cell" = some (.ref fC))
    (GR : FnOk P w K mg base CX0 1 fR fdR ["_law_cell_here"] spRich) (kR : PySem.W.keepIn K (.ref fR) = true) (bR : Binds K fdR ["_law_cell_here"] []) (gR : mg "_law_rich" = some (.ref fR))
    (GD : FnOk P w K mg base CX0 1 fD fdD ["_law_cell_here", "_law_sizes"] spDig) (kD : PySem.W.keepIn K (.ref fD) = true) (bD : Binds K fdD ["_law_cell_here", "_law_sizes"] []) (gD : mg "_law_digits" = some (.ref fD))
    (GA : FnOk P w K mg base CX0 4 fA fdA ["_law_cell_here", "_law_n"] spSR) (kA : PySem.W.keepIn K (.ref fA) = true) (bA : Binds K fdA ["_law_cell_here", "_law_n"] []) (gA : mg "_law_any_signed" = some (.ref fA))
    (GT : FnOk P w K mg base CX0 1 fT fdT ["_law_row_here", "_law_i", "_law_j"] spTrn) (kT : PySem.W.keepIn K (.ref fT) = true) (bT : Binds K fdT ["_law_row_here", "_law_i", "_law_j"] []) (gT : mg "_law_turned" = some (.ref fT))
    (GI : FnOk P w K mg base CX0 1 fI fdI ["_law_actual"] spIsI) (kI : PySem.W.keepIn K (.ref fI) = true) (bI : Binds K fdI ["_law_actual"] []) (gI : mg "_law_is_integer" = some (.ref fI))
    (GL : FnOk P w K mg base CX0 8 fL fdL ["first", "second"] spLeast) (kL : PySem.W.keepIn K (.ref fL) = true) (bL : Binds K fdL ["first", "second"] []) (gL : mg "least_turns" = some (.ref fL)) :
    FnOk P w K mg base CX0 9 f fd ["_law_script"] (spLaw K) := by
  refine F.ok scLaw (fun vs H Q E h => ?_) (fun cdv A outer s H vs Q E hr h => ?_)
  · obtain ⟨a, ns, rfl, _⟩ := h
    rfl
  · obtain ⟨a, ns, rfl, hS, hlen, k⟩ := h
    have hr1 : Room 1 _ := hr.mono (by decide)
    have hr4 : Room 4 _ := hr.mono (by decide)
    refine ⟨_, pss_cons (ps_set (i := 1) scLaw.nd rfl (Or.inl rfl) (pe_call GD hr1 (by rfl) gD kD bD .nil pass0 (pa_cons (pe_call GR hr1 (by rfl) gR kR bR .nil pass0 (pa_cons (pe_call GC hr1 (by rfl) gC kC bC .nil pass0 (pa_cons (pv 0) (pa_cons pe_int pa_nil))) pa_nil))
          (pa_cons (pe_lst (pa_cons pe_int (pa_cons pe_int pa_nil))) pa_nil))))
      (pss_cons (ps_set (i := 2) scLaw.nd rfl (Or.inl rfl) (pe_op op_add pe_int (pe_ix ix_list (pe_lst (pa_cons (pe_op op_modN (pe_callTy call_int1 (by rfl) T.int (by decide +kernel) (pa_cons (pe_ix ix_list (pv 1) pe_int (fun _ _ => rfl)) pa_nil)) pe_int)
          (pa_cons (pe_op op_modN (pe_callTy call_int1 (by rfl) T.int (by decide +kernel) (pa_cons (pe_ix ix_list (pv 1) pe_int (fun _ _ => rfl)) pa_nil)) pe_int) (pa_cons (pe_ix ix_list (pv 1) pe_int (fun _ _ => rfl)) pa_nil)))) (pe_ix ix_list (pv 1) pe_int (fun _ _ => rfl)) (fun _ _ => rfl))))
      (pss_cons (ps_set (i := 3) scLaw.nd rfl (Or.inl rfl) (pe_call GA hr4 (by rfl) gA kA bA .nil pass0 (pa_cons (pe_call GC hr1 (by rfl) gC kC bC .nil pass0 (pa_cons (pv 0) (pa_cons pe_int pa_nil))) (pa_cons (pv 2) pa_nil))))
      (pss_cons (ps_set (i := 4) scLaw.nd rfl (Or.inl rfl) (pv 3))
      (pss_cons (ps_set (i := 5) scLaw.nd rfl (Or.inl rfl) pe_int)
      (pss_cons (ps_for PassesOwn.never rfl (pi_range1 rfl T.range (pa_cons pe_int pa_nil)) (pg_name (i := 6) scLaw.nd rfl (Or.inl rfl))
        (pss_cons (ps_if (pt_cmpR op_ge (pe_op op_add pe_int (pv 6)) (pe_callB call_len_seq (by rfl) T.len PySem.boot_len (pa_cons (pv 0) pa_nil)) (nomark _)) (pss_one ps_break) pss_nil)
        (pss_cons (ps_set (i := 7) scLaw.nd rfl (Or.inl rfl) (pe_call GD hr1 (by rfl) gD kD bD .nil pass0 (pa_cons (pe_call GR hr1 (by rfl) gR kR bR .nil pass0 (pa_cons (pe_op op_add (pe_call GC hr1 (by rfl) gC kC bC .nil pass0 (pa_cons (pv 0) (pa_cons (pe_op op_add pe_int (pv 6)) pa_nil))) (pv 6)) pa_nil))
            (pa_cons (pe_lst (pa_cons (pv 2) (pa_cons (pv 2) pa_nil))) pa_nil))))
        (pss_cons (ps_set (i := 4) scLaw.nd rfl (Or.inl rfl) (pe_call GT hr1 (by rfl) gT kT bT .nil pass0 (pa_cons (pv 4) (pa_cons (pe_callB (call_min2 rfl) (by rfl) T.min (by decide +kernel) (pa_cons (pe_ix ix_list (pv 7) pe_int (fun _ _ => rfl)) (pa_cons (pe_ix ix_list (pv 7) pe_int (fun _ _ => rfl)) pa_nil)))
            (pa_cons (pe_callB (call_max2 rfl) (by rfl) T.max (by decide +kernel) (pa_cons (pe_ix ix_list (pv 7) pe_int (fun _ _ => rfl)) (pa_cons (pe_ix ix_list (pv 7) pe_int (fun _ _ => rfl)) pa_nil))) pa_nil)))))
        (pss_cons (ps_set (i := 5) scLaw.nd rfl (Or.inl rfl) (pe_op op_add (pv 5) pe_int))
        (pss_cons (ps_set (i := 8) scLaw.nd rfl (Or.inl rfl) (pe_call GL hr (by rfl) gL kL bL .nil pass0 (pa_cons (pv 3) (pa_cons (pv 4) pa_nil))))
        (pss_one (ps_if (PW.pt (pw_or (pt_not (pt_val (pe_call GI hr1 (by rfl) gI kI bI .nil pass0 (pa_cons (pv 8) pa_nil)))) (pw_or (pt_cmpR op_lt (pv 8) pe_int (nomark _)) (pw_or (pt_cmpR op_gt (pv 8) (pv 5) (nomark _))
            (pw_or1 (pt_cmpR op_ne (pe_call GL hr (by rfl) gL kL bL .nil pass0 (pa_cons (pv 4) (pa_cons (pv 3) pa_nil))) (pv 8) (nomark _)))))))
          (pss_one (ps_ret pe_bl)) pss_nil))))))))
      (pss_one (ps_ret (pe_cmpR op_eq (pe_call GL hr (by rfl) gL kL bL .nil pass0 (pa_cons (pv 3) (pa_cons (pv 3) pa_nil))) pe_int (nomark _))))))))), ?_⟩
    -- d
    refine ⟨_, rfl, a, ns, 0, rfl, hS, fun z => ⟨z, rfl, fun z1 => ⟨(by show 2 ≤ sizeLine; decide), fun l0 nl0 => ?_⟩⟩⟩
    refine ⟨_, l0, [40, 3], rfl, upd_same, by decide, sz403, fun H1 d ds s1 nd hd hdl hdb => ?_⟩
    have sA : Same H H1 := (same_upd nl0).trans s1
    have q0 := hdb 0 (by decide)
    have q1 := hdb 1 (by decide)
    obtain ⟨x, y, rfl⟩ : ∃ x y, ds = [x, y] := match ds, hdl with | [x, y], _ => ⟨x, y, rfl⟩
    have x0 : 0 ≤ x ∧ x < 40 := q0
    have y0 : 0 ≤ y ∧ y < 3 := q1
    obtain ⟨v, hv, hat⟩ := pick3 x0.1 x0.2 y0.1 y0.2
    have dl : SqL K H1 d [.int x, .int y] := .inl (.inl hd)
    -- n
    refine ⟨_, rfl, d, _, _, .int x, rfl, rfl, dl, rfl, .inl ⟨_, rfl, _, _, rfl, rfl, (by show (7 : Int) ≠ 0; decide), ?_⟩⟩
    refine ⟨_, rfl, d, _, _, .int x, rfl, rfl, dl, rfl, .inl ⟨_, rfl, _, _, rfl, rfl, (by show (16 : Int) ≠ 0; decide), ?_⟩⟩
    refine ⟨_, rfl, d, _, _, .int x, rfl, rfl, dl, rfl, (by show 3 ≤ sizeLine; decide), fun l1 nl1 => ?_⟩
    have sB := sA.trans (same_upd (o := .lst [.int (x.fmod 7), .int (x.fmod 16), .int x]) nl1)
    refine ⟨_, rfl, d, _, _, .int y, rfl, rfl, .inl (.inl (same_upd nl1 _ _ hd)), rfl, l1, _, _, .int (v : Int), rfl, rfl, .inl (.inl upd_same), hat, _, _, rfl, rfl, ?_⟩
    -- first
    refine ⟨_, rfl, a, ns, 1, rfl, sB.seq hS, fun z2 => ⟨_, rfl, z2, 1 + v, rfl, by omega, by omega, fun H2 p1 f s2 np1 hp1 sr => ?_⟩⟩
    obtain ⟨mf, sf, Rf⟩ := TR.ex_rw sr
    have sC := sB.trans s2
    have hn : 1 + v ≤ 40 := by omega
    refine ⟨_, rfl, ⟨12, rfl, by decide, by decide, ?_⟩⟩
    refine for_range (lo := 0) (n := 12) (fun i σ H' => ∃ (v6 v7 v8 : Option V) (p2 : Addr) (s : List Int) (ms ss : Nat → Nat), σ = [some (.ref a), some (.ref d), some (.int (1 + (v : Int))), some (.ref p1), some (.ref p2), some (.int (i : Int)), v6, v7, v8] ∧ Same H H' ∧
        H' p1 = some (rowO f) ∧ H' p2 = some (rowO s) ∧ TR.Rw (1 + v) s ms ss ∧ TR.VV (1 + v) mf sf ms ss ≤ (i : Int))
      ⟨none, none, none, p1, f, mf, sf, rfl, sC, hp1, hp1, Rf, Int.le_of_eq (TR.VV_self Rf.dr)⟩ ?_ ?_
    · rintro i σ H3 hi ⟨v6, v7, v8, p2, s, ms, ss, rfl, sm, h1, h2, Rs, hV⟩
      have e0 : (0 : Int) + (i : Int) = (i : Int) := by omega
      rw [e0]
      refine ⟨_, rfl, _, _, rfl, rfl, _, rfl, a, _, rfl, .inl (sm.seq hS), _, _, rfl, rfl, _, rfl, ?_⟩
      refine ite2 (fun _ => ?_) (fun _ => ?_)
      · refine ⟨_, rfl, _, rfl, p1, p1, 1 + v, f, f, mf, sf, mf, sf, rfl, h1, h1, Rf, Rf, hn, fun H5 s5 => ⟨rfl, ?_⟩⟩
        show Q (.bl (decide (V.int (TR.VV (1 + v) mf sf mf sf) = V.int 0))) H5
        rw [TR.VV_self Rf.dr]
        exact k H5
      · -- e
        refine ⟨_, rfl, _, rfl, _, _, rfl, rfl, a, ns, 2 + i, rfl, sm.seq hS, fun z3 => ⟨_, rfl, _, _, rfl, rfl, _, rfl, fun z4 => ⟨_, rfl, _, rfl, (by show 2 ≤ sizeLine; decide), fun l2 nl2 => ?_⟩⟩⟩
        refine ⟨_, l2, [1 + (v : Int), 1 + (v : Int)], rfl, upd_same, (by show 2 ≤ 1000; decide), sznn (by omega) (by omega), fun H4 d2 ds s4 nd2 hd2 hdl hdb => ?_⟩
        obtain ⟨x2, y2, rfl⟩ : ∃ x y, ds = [x, y] := match ds, hdl with | [x, y], _ => ⟨x, y, rfl⟩
        have bx : 0 ≤ x2 ∧ x2 < 1 + (v : Int) := hdb 0 (by show 0 < 2; decide)
        have by_ : 0 ≤ y2 ∧ y2 < 1 + (v : Int) := hdb 1 (by show 1 < 2; decide)
        have dl2 : SqL K H4 d2 [.int x2, .int y2] := .inl (.inl hd2)
        have s34 : Same H3 H4 := (same_upd nl2).trans s4
        -- second
        refine ⟨_, rfl, _, rfl, d2, _, _, .int x2, rfl, rfl, dl2, rfl, _, rfl, d2, _, _, .int y2, rfl, rfl, dl2, rfl, _, _, rfl, ?_⟩
        refine ⟨_, rfl, d2, _, _, .int x2, rfl, rfl, dl2, rfl, _, rfl, d2, _, _, .int y2, rfl, rfl, dl2, rfl, _, _, rfl, ?_⟩
        have lo : 0 ≤ (if y2 < x2 then y2 else x2) ∧ (if y2 < x2 then y2 else x2) ≤ (if y2 > x2 then y2 else x2) ∧ (if y2 > x2 then y2 else x2) < 1 + (v : Int) := by
          split <;> split <;> omega
        generalize hlo : (if y2 < x2 then y2 else x2) = i0 at lo
        generalize hhi : (if y2 > x2 then y2 else x2) = j0 at lo
        have lij : i0.toNat ≤ j0.toNat := by omega
        have ljn : j0.toNat < 1 + v := by omega
        refine ⟨p2, s, i0.toNat, j0.toNat, ?_, s34 _ _ h2, lij, by rw [Rs.sr.len]; exact ljn, by rw [Rs.sr.len]; exact hn, fun H5 p3 s' s5 np3 hp3 ht => ?_⟩
        · rw [Int.toNat_of_nonneg (by omega), Int.toNat_of_nonneg (by omega), ← hlo, ← hhi]
          rfl
        have Rs' := TR.turned_rw Rs lij ljn ht
        have V1 := TR.VV_turn Rf.dr Rs.dr (i := i0.toNat) (d := j0.toNat + 1) (by omega) (by omega)
        have V2 := TR.VV_nonneg Rf.dr Rs'.dr
        have V3 := TR.VV_sym Rf.dr Rs'.dr
        have s35 := s34.trans s5
        refine ⟨_, rfl, _, _, rfl, rfl, ?_⟩
        refine ⟨_, rfl, _, rfl, p1, p3, 1 + v, f, s', mf, sf, _, _, rfl, s35 _ _ h1, hp3, Rf, Rs', hn, fun H6 s6 => ?_⟩
        have s36 := s35.trans s6
        refine ⟨_, rfl, _, rfl, _, rfl, iteF ?_⟩
        refine ⟨_, rfl, _, _, rfl, rfl, _, rfl, ?_⟩
        refine ite2 (fun h => absurd (of_decide_eq_true h) (by omega)) (fun _ => ?_)
        refine ⟨_, rfl, _, rfl, _, _, rfl, rfl, _, rfl, ?_⟩
        refine ite2 (fun h => absurd (of_decide_eq_true h) (by omega)) (fun _ => ?_)
        refine ⟨_, rfl, _, rfl, p3, p1, 1 + v, s', f, _, _, mf, sf, rfl, s6 _ _ hp3, s36 _ _ h1, Rs', Rf, hn, fun H7 s7 => ?_⟩
        refine ⟨_, rfl, rfl, _, rfl, iteNS (by rw [V3]) ?_⟩
        refine ⟨_, _, _, p3, s', _, _, rfl, (sm.trans s36).trans s7, s7 _ _ (s36 _ _ h1), s7 _ _ (s6 _ _ hp3), Rs', ?_⟩
        have e1 : ((i + 1 : Nat) : Int) = (i : Int) + 1 := by omega
        rw [e1]
        omega
    · rintro σ H3 ⟨v6, v7, v8, p2, s, ms, ss, rfl, sm, h1, h2, Rs, hV⟩
      refine ⟨_, rfl, _, rfl, p1, p1, 1 + v, f, f, mf, sf, mf, sf, rfl, h1, h1, Rf, Rf, hn, fun H5 s5 => ⟨rfl, ?_⟩⟩
      show Q (.bl (decide (V.int (TR.VV (1 + v) mf sf mf sf) = V.int 0))) H5
      rw [TR.VV_self Rf.dr]
      exact k H5
end
end TW

/-! W20 -/
namespace TW
open PySem L2
/-- the def x of the text stands at f, and the module's name x holds it -/
structure At (K : PySem.W.Frag) (x : Str) (st : Stmt) (f : Addr) : Prop where
  ns : PySem.W.nsIn K mainGlobals x = some (some (.ref f))
  fn : ∃ (oc : Value) (od : Option Addr) (kV doc pm : Value) (an : Option Addr) (cdv ct : Value) (osl : Array (Option Value)),
    K.lookup f = some ⟨oc, od, .func (PySem.W.fnOf x x (defArgs st) (defBody st) (defScope st) .none kV doc pm an cdv ct), osl⟩ ∧ PySem.W.codeIn K cdv x = true
  kp : PySem.W.keepIn K (.ref f) = true
theorem at_mk {K : PySem.W.Frag} {x : Str} {st : Stmt} {f : Addr} {oc : Value} {od an : Option Addr} {sl : Array (Option Value)} {kV dc pm cd ct : Value} (a : PySem.W.nsIn K mainGlobals x = some (some (.ref f)))
    (l : K.lookup f = some ⟨oc, od, .func (PySem.W.fnOf x x (defArgs st) (defBody st) (defScope st) .none kV dc pm an cd ct), sl⟩) (c : PySem.W.codeIn K cd x = true) (k : PySem.W.keepIn K (.ref f) = true) : ∃ f, At K x st f :=
  ⟨f, a, ⟨oc, od, kV, dc, pm, an, cd, ct, sl, l, c⟩, k⟩
theorem At.fun_ {K : PySem.W.Frag} {x : Str} {st : Stmt} {f : Addr} (h : At K x st f) : ∃ fd, Fun K x x st f fd := by
  obtain ⟨oc, od, kV, doc, pm, an, cdv, ct, osl, l, c⟩ := h.fn
  exact ⟨_, fun_mk l c h.kp⟩
theorem all_mk {l : PySem.W.OpenLaw} {w : World} {K : PySem.W.Frag} {h : Heap} {mg : Str → Option Value} {fa : Addr} (X : K.In h) (G : h.Ns mainGlobals mg) (hfa : mg "law" = some (.ref fa))
    (d0 : ∃ f, At K "need_same_length" (top 5) f)
    (d1 : ∃ f, At K "check_signed" (top 7) f)
    (d2 : ∃ f, At K "relative_signed" (top 8) f)
    (d3 : ∃ f, At K "marks" (top 10) f)
    (d4 : ∃ f, At K "light_lines" (top 11) f)
    (d5 : ∃ f, At K "dark_partner" (top 12) f)
    (d6 : ∃ f, At K "light_partners" (top 13) f)
    (d7 : ∃ f, At K "drawing_rings" (top 14) f)
    (d8 : ∃ f, At K "is_oriented" (top 16) f)
    (d9 : ∃ f, At K "crosses" (top 17) f)
    (d10 : ∃ f, At K "is_short" (top 18) f)
    (d11 : ∃ f, At K "connected_with" (top 19) f)
    (d12 : ∃ f, At K "parts_of" (top 20) f)
    (d13 : ∃ f, At K "is_bad" (top 21) f)
    (d14 : ∃ f, At K "bad_parts" (top 22) f)
    (d15 : ∃ f, At K "round_of" (top 24) f)
    (d16 : ∃ f, At K "hurdles_among" (top 25) f)
    (d17 : ∃ f, At K "hurdles" (top 26) f)
    (d18 : ∃ f, At K "great_hurdles" (top 27) f)
    (d19 : ∃ f, At K "is_fortress" (top 28) f)
    (d20 : ∃ f, At K "turns_to_sorted" (top 30) f)
    (d21 : ∃ f, At K "least_turns" (top 31) f)
    (d22 : ∃ f, At K "_law_cell" (top 33) f)
    (d23 : ∃ f, At K "_law_digits" (top 34) f)
    (d24 : ∃ f, At K "_law_rich" (top 35) f)
    (d25 : ∃ f, At K "_law_row" (top 36) f)
    (d26 : ∃ f, At K "_law_signed" (top 37) f)
    (d27 : ∃ f, At K "_law_turned" (top 38) f)
    (d28 : ∃ f, At K "_law_is_integer" (top 39) f)
    (d29 : ∃ f, At K "_law_mixed" (top 40) f)
    (d30 : ∃ f, At K "_law_any_signed" (top 41) f)
    (dL : ∃ f, At K "law" (top 42) f)
    (z_len : PySem.W.nsIn K mainGlobals "len" = some none)
    (z_sorted : PySem.W.nsIn K mainGlobals "sorted" = some none)
    (z_list : PySem.W.nsIn K mainGlobals "list" = some none)
    (z_range : PySem.W.nsIn K mainGlobals "range" = some none)
    (z_tuple : PySem.W.nsIn K mainGlobals "tuple" = some none)
    (z_min : PySem.W.nsIn K mainGlobals "min" = some none)
    (z_max : PySem.W.nsIn K mainGlobals "max" = some none)
    (z_any : PySem.W.nsIn K mainGlobals "any" = some none)
    (z_int : PySem.W.nsIn K mainGlobals "int" = some none)
    (z_abs : PySem.W.nsIn K mainGlobals "abs" = some none)
    (z_isin : PySem.W.nsIn K mainGlobals "isinstance" = some none)
    (z_bool : PySem.W.nsIn K mainGlobals "bool" = some none)
    {tm : Tok} (z_most : PySem.W.nsIn K mainGlobals "MOST_PIECES" = some (some (.int 40 tm))) :
    ∃ fd : FuncData, (∀ (s : Shared) (v : Value), BindsTo s fd ⟨[v], []⟩ [("_law_script", v)]) ∧ ∀ base : Heap, K.In base → base.Ns mainGlobals mg → FnOk l.prog w K mg base CX0 9 fa fd ["_law_script"] (spLaw K) := by
  have T : Bt mg := ⟨PySem.W.mg_none_of X G z_len, PySem.W.mg_none_of X G z_sorted, PySem.W.mg_none_of X G z_list, PySem.W.mg_none_of X G z_range, PySem.W.mg_none_of X G z_tuple, PySem.W.mg_none_of X G z_min, PySem.W.mg_none_of X G z_max, PySem.W.mg_none_of X G z_any, PySem.W.mg_none_of X G z_int, PySem.W.mg_none_of X G z_abs, PySem.W.mg_none_of X G z_isin, PySem.W.mg_none_of X G z_bool, ⟨tm, PySem.W.mg_of X G z_most⟩⟩
  obtain ⟨f0, e0⟩ := d0
  obtain ⟨fd0, F0⟩ := e0.fun_
  have g0 := PySem.W.mg_of X G e0.ns
  have b0 := F0.binds (ps := ["first", "second"]) fun _ _ _ _ _ _ us hl => match us, hl with | [_, _], _ => rfl
  obtain ⟨f1, e1⟩ := d1
  obtain ⟨fd1, F1⟩ := e1.fun_
  have g1 := PySem.W.mg_of X G e1.ns
  have b1 := F1.binds (ps := ["row"]) fun _ _ _ _ _ _ us hl => match us, hl with | [_], _ => rfl
  obtain ⟨f2, e2⟩ := d2
  obtain ⟨fd2, F2⟩ := e2.fun_
  have g2 := PySem.W.mg_of X G e2.ns
  have b2 := F2.binds (ps := ["first", "second"]) fun _ _ _ _ _ _ us hl => match us, hl with | [_, _], _ => rfl
  obtain ⟨f3, e3⟩ := d3
  obtain ⟨fd3, F3⟩ := e3.fun_
  have g3 := PySem.W.mg_of X G e3.ns
  have b3 := F3.binds (ps := ["row"]) fun _ _ _ _ _ _ us hl => match us, hl with | [_], _ => rfl
  obtain ⟨f4, e4⟩ := d4
  obtain ⟨fd4, F4⟩ := e4.fun_
  have g4 := PySem.W.mg_of X G e4.ns
  have b4 := F4.binds (ps := ["row"]) fun _ _ _ _ _ _ us hl => match us, hl with | [_], _ => rfl
  obtain ⟨f5, e5⟩ := d5
  obtain ⟨fd5, F5⟩ := e5.fun_
  have g5 := PySem.W.mg_of X G e5.ns
  have b5 := F5.binds (ps := ["spot"]) fun _ _ _ _ _ _ us hl => match us, hl with | [_], _ => rfl
  obtain ⟨f6, e6⟩ := d6
  obtain ⟨fd6, F6⟩ := e6.fun_
  have g6 := PySem.W.mg_of X G e6.ns
  have b6 := F6.binds (ps := ["row"]) fun _ _ _ _ _ _ us hl => match us, hl with | [_], _ => rfl
  obtain ⟨f7, e7⟩ := d7
  obtain ⟨fd7, F7⟩ := e7.fun_
  have g7 := PySem.W.mg_of X G e7.ns
  have b7 := F7.binds (ps := ["row"]) fun _ _ _ _ _ _ us hl => match us, hl with | [_], _ => rfl
  obtain ⟨f8, e8⟩ := d8
  obtain ⟨fd8, F8⟩ := e8.fun_
  have g8 := PySem.W.mg_of X G e8.ns
  have b8 := F8.binds (ps := ["line"]) fun _ _ _ _ _ _ us hl => match us, hl with | [_], _ => rfl
  obtain ⟨f9, e9⟩ := d9
  obtain ⟨fd9, F9⟩ := e9.fun_
  have g9 := PySem.W.mg_of X G e9.ns
  have b9 := F9.binds (ps := ["line", "other"]) fun _ _ _ _ _ _ us hl => match us, hl with | [_, _], _ => rfl
  obtain ⟨f10, e10⟩ := d10
  obtain ⟨fd10, F10⟩ := e10.fun_
  have g10 := PySem.W.mg_of X G e10.ns
  have b10 := F10.binds (ps := ["line"]) fun _ _ _ _ _ _ us hl => match us, hl with | [_], _ => rfl
  obtain ⟨f11, e11⟩ := d11
  obtain ⟨fd11, F11⟩ := e11.fun_
  have g11 := PySem.W.mg_of X G e11.ns
  have b11 := F11.binds (ps := ["lines", "start"]) fun _ _ _ _ _ _ us hl => match us, hl with | [_, _], _ => rfl
  obtain ⟨f12, e12⟩ := d12
  obtain ⟨fd12, F12⟩ := e12.fun_
  have g12 := PySem.W.mg_of X G e12.ns
  have b12 := F12.binds (ps := ["lines"]) fun _ _ _ _ _ _ us hl => match us, hl with | [_], _ => rfl
  obtain ⟨f13, e13⟩ := d13
  obtain ⟨fd13, F13⟩ := e13.fun_
  have g13 := PySem.W.mg_of X G e13.ns
  have b13 := F13.binds (ps := ["lines", "part"]) fun _ _ _ _ _ _ us hl => match us, hl with | [_, _], _ => rfl
  obtain ⟨f14, e14⟩ := d14
  obtain ⟨fd14, F14⟩ := e14.fun_
  have g14 := PySem.W.mg_of X G e14.ns
  have b14 := F14.binds (ps := ["row"]) fun _ _ _ _ _ _ us hl => match us, hl with | [_], _ => rfl
  obtain ⟨f15, e15⟩ := d15
  obtain ⟨fd15, F15⟩ := e15.fun_
  have g15 := PySem.W.mg_of X G e15.ns
  have b15 := F15.binds (ps := ["lines", "some"]) fun _ _ _ _ _ _ us hl => match us, hl with | [_, _], _ => rfl
  obtain ⟨f16, e16⟩ := d16
  obtain ⟨fd16, F16⟩ := e16.fun_
  have g16 := PySem.W.mg_of X G e16.ns
  have b16 := F16.binds (ps := ["lines", "some"]) fun _ _ _ _ _ _ us hl => match us, hl with | [_, _], _ => rfl
  obtain ⟨f17, e17⟩ := d17
  obtain ⟨fd17, F17⟩ := e17.fun_
  have g17 := PySem.W.mg_of X G e17.ns
  have b17 := F17.binds (ps := ["row"]) fun _ _ _ _ _ _ us hl => match us, hl with | [_], _ => rfl
  obtain ⟨f18, e18⟩ := d18
  obtain ⟨fd18, F18⟩ := e18.fun_
  have g18 := PySem.W.mg_of X G e18.ns
  have b18 := F18.binds (ps := ["row"]) fun _ _ _ _ _ _ us hl => match us, hl with | [_], _ => rfl
  obtain ⟨f19, e19⟩ := d19
  obtain ⟨fd19, F19⟩ := e19.fun_
  have g19 := PySem.W.mg_of X G e19.ns
  have b19 := F19.binds (ps := ["row"]) fun _ _ _ _ _ _ us hl => match us, hl with | [_], _ => rfl
  obtain ⟨f20, e20⟩ := d20
  obtain ⟨fd20, F20⟩ := e20.fun_
  have g20 := PySem.W.mg_of X G e20.ns
  have b20 := F20.binds (ps := ["row"]) fun _ _ _ _ _ _ us hl => match us, hl with | [_], _ => rfl
  obtain ⟨f21, e21⟩ := d21
  obtain ⟨fd21, F21⟩ := e21.fun_
  have g21 := PySem.W.mg_of X G e21.ns
  have b21 := F21.binds (ps := ["first", "second"]) fun _ _ _ _ _ _ us hl => match us, hl with | [_, _], _ => rfl
  obtain ⟨f22, e22⟩ := d22
  obtain ⟨fd22, F22⟩ := e22.fun_
  have g22 := PySem.W.mg_of X G e22.ns
  have b22 := F22.binds (ps := ["_law_script", "_law_k"]) fun _ _ _ _ _ _ us hl => match us, hl with | [_, _], _ => rfl
  obtain ⟨f23, e23⟩ := d23
  obtain ⟨fd23, F23⟩ := e23.fun_
  have g23 := PySem.W.mg_of X G e23.ns
  have b23 := F23.binds (ps := ["_law_cell_here", "_law_sizes"]) fun _ _ _ _ _ _ us hl => match us, hl with | [_, _], _ => rfl
  obtain ⟨f24, e24⟩ := d24
  obtain ⟨fd24, F24⟩ := e24.fun_
  have g24 := PySem.W.mg_of X G e24.ns
  have b24 := F24.binds (ps := ["_law_cell_here"]) fun _ _ _ _ _ _ us hl => match us, hl with | [_], _ => rfl
  obtain ⟨f25, e25⟩ := d25
  obtain ⟨fd25, F25⟩ := e25.fun_
  have g25 := PySem.W.mg_of X G e25.ns
  have b25 := F25.binds (ps := ["_law_cell_here", "_law_n"]) fun _ _ _ _ _ _ us hl => match us, hl with | [_, _], _ => rfl
  obtain ⟨f26, e26⟩ := d26
  obtain ⟨fd26, F26⟩ := e26.fun_
  have g26 := PySem.W.mg_of X G e26.ns
  have b26 := F26.binds (ps := ["_law_cell_here", "_law_n"]) fun _ _ _ _ _ _ us hl => match us, hl with | [_, _], _ => rfl
  obtain ⟨f27, e27⟩ := d27
  obtain ⟨fd27, F27⟩ := e27.fun_
  have g27 := PySem.W.mg_of X G e27.ns
  have b27 := F27.binds (ps := ["_law_row_here", "_law_i", "_law_j"]) fun _ _ _ _ _ _ us hl => match us, hl with | [_, _, _], _ => rfl
  obtain ⟨f28, e28⟩ := d28
  obtain ⟨fd28, F28⟩ := e28.fun_
  have g28 := PySem.W.mg_of X G e28.ns
  have b28 := F28.binds (ps := ["_law_actual"]) fun _ _ _ _ _ _ us hl => match us, hl with | [_], _ => rfl
  obtain ⟨f29, e29⟩ := d29
  obtain ⟨fd29, F29⟩ := e29.fun_
  have g29 := PySem.W.mg_of X G e29.ns
  have b29 := F29.binds (ps := ["_law_cell_here", "_law_n"]) fun _ _ _ _ _ _ us hl => match us, hl with | [_, _], _ => rfl
  obtain ⟨f30, e30⟩ := d30
  obtain ⟨fd30, F30⟩ := e30.fun_
  have g30 := PySem.W.mg_of X G e30.ns
  have b30 := F30.binds (ps := ["_law_cell_here", "_law_n"]) fun _ _ _ _ _ _ us hl => match us, hl with | [_, _], _ => rfl
  obtain ⟨fL, eL⟩ := dL
  have e := hfa.symm.trans (PySem.W.mg_of X G eL.ns)
  cases e
  obtain ⟨oc, od, kV, doc, pm, an, cdv, ct, osl, lk, cd⟩ := eL.fn
  have FL := fun_mk (st := top 42) lk cd eL.kp
  refine ⟨PySem.W.fnOf "law" "law" (defArgs sLaw) (defBody sLaw) (defScope sLaw) .none kV doc pm an cdv ct, fun s v => .of_eq rfl, fun base _ _ => ?_⟩
  have G5 : FnOk l.prog w K mg base CX0 1 f5 fd5 ["spot"] spDark := ok_dark F5
  have G8 : FnOk l.prog w K mg base CX0 1 f8 fd8 ["line"] spOri := ok_ori F8
  have G10 : FnOk l.prog w K mg base CX0 1 f10 fd10 ["line"] spShort := ok_short F10
  have G9 : FnOk l.prog w K mg base CX0 1 f9 fd9 ["line", "other"] spCross := ok_cross T F9
  have G2 : FnOk l.prog w K mg base CX0 2 f2 fd2 ["first", "second"] spRel := ok_rel T F2 F1 b1 g1 F0 b0 g0
  have G4 : FnOk l.prog w K mg base CX0 3 f4 fd4 ["row"] spLines := ok_lines T F4 F1 b1 g1 F3 b3 g3
  have G6 : FnOk l.prog w K mg base CX0 4 f6 fd6 ["row"] spPart := ok_part F6 G4 F4.kp b4 g4
  have G7 : FnOk l.prog w K mg base CX0 5 f7 fd7 ["row"] spRings := ok_rings T F7 G6 F6.kp b6 g6 G5 F5.kp b5 g5
  have G11 : FnOk l.prog w K mg base CX0 2 f11 fd11 ["lines", "start"] spConn := ok_conn T F11 G9 F9.kp b9 g9
  have G12 : FnOk l.prog w K mg base CX0 3 f12 fd12 ["lines"] spPts := ok_pts T F12 G11 F11.kp b11 g11
  have G13 : FnOk l.prog w K mg base CX0 2 f13 fd13 ["lines", "part"] spBad := ok_bad T F13 G8 F8.kp b8 g8 G10 F10.kp b10 g10
  have G14 : FnOk l.prog w K mg base CX0 4 f14 fd14 ["row"] spBads := ok_bads T F14 G4 F4.kp b4 g4 G12 F12.kp b12 g12 G13 F13.kp b13 g13
  have G15 : FnOk l.prog w K mg base CX0 1 f15 fd15 ["lines", "some"] spRound := ok_round T F15
  have G16 : FnOk l.prog w K mg base CX0 2 f16 fd16 ["lines", "some"] spAmong := ok_among T F16 G15 F15.kp b15 g15
  have G17 : FnOk l.prog w K mg base CX0 5 f17 fd17 ["row"] spHur := ok_hur F17 G4 F4.kp b4 g4 G14 F14.kp b14 g14 G16 F16.kp b16 g16
  have G18 : FnOk l.prog w K mg base CX0 5 f18 fd18 ["row"] spGreat := ok_great T F18 G4 F4.kp b4 g4 G14 F14.kp b14 g14 G16 F16.kp b16 g16
  have G19 : FnOk l.prog w K mg base CX0 6 f19 fd19 ["row"] spFort := ok_fort T F19 G17 F17.kp b17 g17 G18 F18.kp b18 g18
  have G20 : FnOk l.prog w K mg base CX0 7 f20 fd20 ["row"] spSort := ok_sort T F20 G7 F7.kp b7 g7 G17 F17.kp b17 g17 G19 F19.kp b19 g19
  have G21 : FnOk l.prog w K mg base CX0 8 f21 fd21 ["first", "second"] spLeast := ok_least F21 G2 F2.kp b2 g2 G20 F20.kp b20 g20
  have G22 : FnOk l.prog w K mg base CX0 1 f22 fd22 ["_law_script", "_law_k"] (spCell K) := ok_cell T F22
  have G23 : FnOk l.prog w K mg base CX0 1 f23 fd23 ["_law_cell_here", "_law_sizes"] spDig := ok_dig T F23
  have G24 : FnOk l.prog w K mg base CX0 1 f24 fd24 ["_law_cell_here"] spRich := ok_rich T F24
  have G28 : FnOk l.prog w K mg base CX0 1 f28 fd28 ["_law_actual"] spIsI := ok_isI T F28
  have G25 : FnOk l.prog w K mg base CX0 2 f25 fd25 ["_law_cell_here", "_law_n"] spRow := ok_row T F25 G24 F24.kp b24 g24
  have G26 : FnOk l.prog w K mg base CX0 3 f26 fd26 ["_law_cell_here", "_law_n"] spSR := ok_sgn T F26 G24 F24.kp b24 g24 G25 F25.kp b25 g25
  have G27 : FnOk l.prog w K mg base CX0 1 f27 fd27 ["_law_row_here", "_law_i", "_law_j"] spTrn := ok_trn T F27
  have G29 : FnOk l.prog w K mg base CX0 2 f29 fd29 ["_law_cell_here", "_law_n"] spSR := ok_mix T F29 G24 F24.kp b24 g24
  have G30 : FnOk l.prog w K mg base CX0 4 f30 fd30 ["_law_cell_here", "_law_n"] spSR := ok_any T F30 G26 F26.kp b26 g26 G29 F29.kp b29 g29 G24 F24.kp b24 g24 G27 F27.kp b27 g27
  exact ok_law T FL G22 F22.kp b22 g22 G24 F24.kp b24 g24 G23 F23.kp b23 g23 G30 F30.kp b30 g30 G27 F27.kp b27 g27 G28 F28.kp b28 g28 G21 F21.kp b21 g21
theorem walk {l : PySem.W.OpenLaw} {q : Program} {loose : List Str} {XP : (Str → Option Value) → Heap → Prop} {YP : World → Heap → Prop} {d : DefRec} {K : Params → PySem.W.Frag} (hn : l.most = some 63) (hdf : d.params.defaults = [])
    (hY : ∀ (w : World) (h : Heap), YP w h → (K w.params).In h)
    (F : ∀ (w : World) (mg : Str → Option Value) (fa : Addr) (h : Heap), (K w.params).In h → h.Ns mainGlobals mg → mg d.name = some (.ref fa) →
      ∃ fd : FuncData, (∀ (s : Shared) (u : Value), BindsTo s fd ⟨[u], []⟩ [("_law_script", u)]) ∧ ∀ base : Heap, (K w.params).In base → base.Ns mainGlobals mg → FnOk l.prog w (K w.params) mg base CX0 9 fa fd ["_law_script"] (spLaw (K w.params))) :
    PySem.W.WalkO q loose XP YP l.row.toRowW d [] (fun f vs => PySem.call f vs) :=
  L2.walk_of (n := 63) (k := 9) (x := "_law_script") (CX := fun _ => CX0) (sp := fun w => spLaw (K w.params)) hn (by decide) hdf ⟨rfl, by decide, by decide⟩ hY F (fun _ _ a ns hl _ hS => ⟨a, ns, rfl, hS, hl, fun _ => rfl⟩) fun _ _ _ _ _ z => z
end TW

open PySem PySem.W PyProof.Rows in
set_option maxRecDepth 100000 in
set_option maxHeartbeats 0 in
theorem PySem.Challenge.cw_turnedrows_k23_whole_turns_none_fewer_holds : PySem.Challenge.rw_turnedrows_k23_whole_turns_none_fewer.Holds := by
  w_on; o_law; k_head; (case hw => w_witness2)
  k_fill
  refine TW.walk (l := PySem.Challenge.rw_turnedrows_k23_whole_turns_none_fewer) rfl rfl (fun w h Y => PySem.W.kIn_of Y) ?F
  case F =>
    intro w mg fa h KX G hmg
    refine' TW.all_mk KX G hmg ?d0 ?d1 ?d2 ?d3 ?d4 ?d5 ?d6 ?d7 ?d8 ?d9 ?d10 ?d11 ?d12 ?d13 ?d14 ?d15 ?d16 ?d17 ?d18 ?d19 ?d20 ?d21 ?d22 ?d23 ?d24 ?d25 ?d26 ?d27 ?d28 ?d29 ?d30 ?dL ?z0 ?z1 ?z2 ?z3 ?z4 ?z5 ?z6 ?z7 ?z8 ?z9 ?z10 ?z11 ?zm
    (case d0 => (refine' TW.at_mk ?a ?l ?c ?k; (case a => k_is); (case l => k_is); (case c => k_is); (case k => k_is)))
    (case d1 => (refine' TW.at_mk ?a ?l ?c ?k; (case a => k_is); (case l => k_is); (case c => k_is); (case k => k_is)))
    (case d2 => (refine' TW.at_mk ?a ?l ?c ?k; (case a => k_is); (case l => k_is); (case c => k_is); (case k => k_is)))
    (case d3 => (refine' TW.at_mk ?a ?l ?c ?k; (case a => k_is); (case l => k_is); (case c => k_is); (case k => k_is)))
    (case d4 => (refine' TW.at_mk ?a ?l ?c ?k; (case a => k_is); (case l => k_is); (case c => k_is); (case k => k_is)))
    (case d5 => (refine' TW.at_mk ?a ?l ?c ?k; (case a => k_is); (case l => k_is); (case c => k_is); (case k => k_is)))
    (case d6 => (refine' TW.at_mk ?a ?l ?c ?k; (case a => k_is); (case l => k_is); (case c => k_is); (case k => k_is)))
    (case d7 => (refine' TW.at_mk ?a ?l ?c ?k; (case a => k_is); (case l => k_is); (case c => k_is); (case k => k_is)))
    (case d8 => (refine' TW.at_mk ?a ?l ?c ?k; (case a => k_is); (case l => k_is); (case c => k_is); (case k => k_is)))
    (case d9 => (refine' TW.at_mk ?a ?l ?c ?k; (case a => k_is); (case l => k_is); (case c => k_is); (case k => k_is)))
    (case d10 => (refine' TW.at_mk ?a ?l ?c ?k; (case a => k_is); (case l => k_is); (case c => k_is); (case k => k_is)))
    (case d11 => (refine' TW.at_mk ?a ?l ?c ?k; (case a => k_is); (case l => k_is); (case c => k_is); (case k => k_is)))
    (case d12 => (refine' TW.at_mk ?a ?l ?c ?k; (case a => k_is); (case l => k_is); (case c => k_is); (case k => k_is)))
    (case d13 => (refine' TW.at_mk ?a ?l ?c ?k; (case a => k_is); (case l => k_is); (case c => k_is); (case k => k_is)))
    (case d14 => (refine' TW.at_mk ?a ?l ?c ?k; (case a => k_is); (case l => k_is); (case c => k_is); (case k => k_is)))
    (case d15 => (refine' TW.at_mk ?a ?l ?c ?k; (case a => k_is); (case l => k_is); (case c => k_is); (case k => k_is)))
    (case d16 => (refine' TW.at_mk ?a ?l ?c ?k; (case a => k_is); (case l => k_is); (case c => k_is); (case k => k_is)))
    (case d17 => (refine' TW.at_mk ?a ?l ?c ?k; (case a => k_is); (case l => k_is); (case c => k_is); (case k => k_is)))
    (case d18 => (refine' TW.at_mk ?a ?l ?c ?k; (case a => k_is); (case l => k_is); (case c => k_is); (case k => k_is)))
    (case d19 => (refine' TW.at_mk ?a ?l ?c ?k; (case a => k_is); (case l => k_is); (case c => k_is); (case k => k_is)))
    (case d20 => (refine' TW.at_mk ?a ?l ?c ?k; (case a => k_is); (case l => k_is); (case c => k_is); (case k => k_is)))
    (case d21 => (refine' TW.at_mk ?a ?l ?c ?k; (case a => k_is); (case l => k_is); (case c => k_is); (case k => k_is)))
    (case d22 => (refine' TW.at_mk ?a ?l ?c ?k; (case a => k_is); (case l => k_is); (case c => k_is); (case k => k_is)))
    (case d23 => (refine' TW.at_mk ?a ?l ?c ?k; (case a => k_is); (case l => k_is); (case c => k_is); (case k => k_is)))
    (case d24 => (refine' TW.at_mk ?a ?l ?c ?k; (case a => k_is); (case l => k_is); (case c => k_is); (case k => k_is)))
    (case d25 => (refine' TW.at_mk ?a ?l ?c ?k; (case a => k_is); (case l => k_is); (case c => k_is); (case k => k_is)))
    (case d26 => (refine' TW.at_mk ?a ?l ?c ?k; (case a => k_is); (case l => k_is); (case c => k_is); (case k => k_is)))
    (case d27 => (refine' TW.at_mk ?a ?l ?c ?k; (case a => k_is); (case l => k_is); (case c => k_is); (case k => k_is)))
    (case d28 => (refine' TW.at_mk ?a ?l ?c ?k; (case a => k_is); (case l => k_is); (case c => k_is); (case k => k_is)))
    (case d29 => (refine' TW.at_mk ?a ?l ?c ?k; (case a => k_is); (case l => k_is); (case c => k_is); (case k => k_is)))
    (case d30 => (refine' TW.at_mk ?a ?l ?c ?k; (case a => k_is); (case l => k_is); (case c => k_is); (case k => k_is)))
    (case dL => (refine' TW.at_mk ?a ?l ?c ?k; (case a => k_is); (case l => k_is); (case c => k_is); (case k => k_is)))
    (case z0 => k_is)
    (case z1 => k_is)
    (case z2 => k_is)
    (case z3 => k_is)
    (case z4 => k_is)
    (case z5 => k_is)
    (case z6 => k_is)
    (case z7 => k_is)
    (case z8 => k_is)
    (case z9 => k_is)
    (case z10 => k_is)
    (case z11 => k_is)
    (case zm => k_is)

