import PyProof.Rows.All
import Wide.All
import OpenK.AllK
import Wide.FinOn
import KE.GoesEnum
import KE.GoesZip
import KE.GoesMore
import HandS.ForMost
import KE.KOwnIter
import KE.KDictList
import KE.KDictIter
import HandS.Defaults
import HandS.OwnEq
import HandS.OwnIter
import HandS.IterVal
import HandS.SetBool
import KE.KEqDict
import HandS.SetFor
import HandS.DictComp
import HandS.Ends
import KE.KStateDown
import Lean
import HandS.Head0
import HandS.Head1
import HandS.Head2
import HandS.HeadEnd
import HandS.HeadHook1
import HandS.HeadHook2
import HandS.Property
import PySem.Challenge.RW_swornlots_k22_whole_day_shadow
import HandS.IsInst
import HandS.Wide
import HandS.Walk
import HandS.Evl
import HandS.Style
import PyProof.ReprRoads
import HandS.FStrTup
set_option Elab.async false
set_option linter.all false
set_option maxRecDepth 100000
set_option maxHeartbeats 0
namespace WM
open Classical

abbrev T3 (α : Type) := α × α × Int
section
variable {α : Type}
/-- a way of ties from a name to a name, with its sum -/
inductive Way (T : List (T3 α)) : α → α → Int → Prop
  | stay (a : α) : Way T a a 0
  | more {a b c : α} {w n : Int} (h : Way T a b w) (m : (b, c, n) ∈ T) : Way T a c (w + n)
def Least (T : List (T3 α)) (a b : α) (d : Int) : Prop := Way T a b d ∧ ∀ w, Way T a b w → d ≤ w
/-- days that keep all ties -/
def Feas (T : List (T3 α)) (h : α → Int) : Prop := ∀ a b n, (a, b, n) ∈ T → h b ≤ h a + n
variable {T U : List (T3 α)} {a b c : α} {v w d e n : Int} {h : α → Int}
theorem Way.one (m : (a, b, n) ∈ T) : Way T a b n := by
  have z := Way.more (Way.stay (T := T) a) m
  rwa [Int.zero_add] at z
theorem Way.join (x : Way T a b v) (y : Way T b c w) : Way T a c (v + w) := by
  induction y with
  | stay => rwa [Int.add_zero]
  | more _ m ih =>
    have z := Way.more ih m
    rwa [Int.add_assoc] at z
theorem Way.mono (x : Way T a b w) (s : ∀ t ∈ T, t ∈ U) : Way U a b w := by
  induction x with
  | stay => exact .stay _
  | more _ m ih => exact .more ih (s _ m)
theorem Feas.way (f : Feas T h) (x : Way T a b w) : h b ≤ h a + w := by
  induction x with
  | stay => omega
  | more _ m ih =>
    have := f _ _ _ m
    omega
theorem Feas.ring (f : Feas T h) (x : Way T a a w) : 0 ≤ w := by
  have := f.way x
  omega
theorem Least.uniq (x : Least T a b d) (y : Least T a b e) : d = e := by
  have h1 := x.2 _ y.1
  have h2 := y.2 _ x.1
  omega
theorem least_int {P : Int → Prop} {B : Int} : ∀ (k : Nat) (w : Int), P w → (∀ x, P x → B ≤ x) → (w - B).toNat ≤ k → ∃ d, P d ∧ ∀ x, P x → d ≤ x
  | 0, w, p, l, hk => ⟨w, p, fun x q => by
    have := l x q
    have := l w p
    omega⟩
  | k + 1, w, p, l, hk => by
    by_cases q : ∃ x, P x ∧ x < w
    · obtain ⟨x, px, lx⟩ := q
      have := l x px
      exact least_int k x px l (by omega)
    · exact ⟨w, p, fun x px => Int.not_lt.mp fun y => q ⟨x, px, y⟩⟩
theorem Feas.least (f : Feas T h) (x : Way T a b w) : ∃ d, Least T a b d := by
  obtain ⟨d, h1, h2⟩ := least_int (P := fun w => Way T a b w) (B := h b - h a) _ w x (fun y q => by
    have := f.way q
    omega) (Nat.le_refl _)
  exact ⟨d, h1, h2⟩
theorem Feas.here (f : Feas T h) (a : α) : Least T a a 0 := ⟨.stay a, fun _ x => f.ring x⟩
/-- a least way ends where nothing is settled: on it a tie leaves what is settled -/
theorem Least.leaves {s : α} {E : α → Prop} (hs : E s) : ∀ {b : α} {w : Int}, Way T s b w → (∀ x, Way T s b x → w ≤ x) → ¬ E b → ∃ a c d n, (a, c, n) ∈ T ∧ E a ∧ ¬ E c ∧ Least T s a d ∧ Least T s c (d + n) := by
  intro b w x
  induction x with
  | stay => exact fun _ ne => absurd hs ne
  | @more b c w n x m ih =>
    intro l ne
    have l2 : ∀ y, Way T s b y → w ≤ y := fun y q => by
      have := l _ (Way.more q m)
      omega
    by_cases q : E b
    · exact ⟨b, c, w, n, m, q, ne, ⟨x, l2⟩, ⟨.more x m, l⟩⟩
    · exact ih l2 q

/-! ### one source: what is known of each name -/
abbrev Row (α : Type) := α → Option Int
def Snd (T : List (T3 α)) (s : α) (f : Row α) : Prop := ∀ v d, f v = some d → Way T s v d
def Fix (T : List (T3 α)) (f : Row α) : Prop := ∀ a b n, (a, b, n) ∈ T → ∀ d, f a = some d → ∃ e, f b = some e ∧ e ≤ d + n
def IsD (T : List (T3 α)) (s : α) (f : Row α) : Prop := ∀ v d, f v = some d ↔ Least T s v d
theorem Fix.way {s : α} {f : Row α} (x : Fix T f) {d0 : Int} (h0 : f s = some d0) (hz : d0 ≤ 0) {v : α} {w : Int} (y : Way T s v w) : ∃ e, f v = some e ∧ e ≤ w := by
  induction y with
  | stay => exact ⟨d0, h0, hz⟩
  | more _ m ih =>
    obtain ⟨e, h1, h2⟩ := ih
    obtain ⟨z, h3, h4⟩ := x _ _ _ m e h1
    exact ⟨z, h3, by omega⟩
theorem isD_of {s : α} {f : Row α} (x : Snd T s f) (y : Fix T f) {d0 : Int} (h0 : f s = some d0) (hz : d0 ≤ 0) : IsD T s f := fun v d => by
  constructor
  · intro q
    refine ⟨x v d q, fun w z => ?_⟩
    obtain ⟨e, h1, h2⟩ := y.way h0 hz z
    rw [q] at h1
    have := Option.some.inj h1
    omega
  · rintro ⟨p, q⟩
    obtain ⟨e, h1, h2⟩ := y.way h0 hz p
    have := q e (x v e h1)
    have e2 : e = d := by omega
    rw [h1, e2]
theorem IsD.ext {s : α} {f g : Row α} (x : IsD T s f) (y : IsD T s g) : f = g := by
  funext v
  cases hf : f v with
  | some d => exact ((y v d).mpr ((x v d).mp hf)).symm
  | none =>
    cases hg : g v with
    | none => rfl
    | some d =>
      rw [(x v d).mpr ((y v d).mp hg)] at hf
      cases hf
def wins (y : Option Int) (x : Int) : Prop := match y with
  | none => True
  | some z => x < z
noncomputable instance : Decidable (wins x y) := Classical.propDecidable _
noncomputable def rl (f : Row α) (t : T3 α) : Row α := match f t.1 with
  | none => f
  | some x => if wins (f t.2.1) (x + t.2.2) then fun v => if v = t.2.1 then some (x + t.2.2) else f v else f
noncomputable def round (T : List (T3 α)) (f : Row α) : Row α := T.foldl rl f
noncomputable def rounds (T : List (T3 α)) : Nat → Row α → Row α
  | 0, f => f
  | k + 1, f => rounds T k (round T f)
def Ex1 (T : List (T3 α)) (s : α) (f : Row α) (v : α) : Prop := ∃ d, f v = some d ∧ Least T s v d
variable {s : α} {f : Row α} {t : T3 α}
theorem rl_none (q : f t.1 = none) : rl f t = f := by
  unfold rl
  rw [q]
theorem rl_win {x : Int} (q : f t.1 = some x) (z : wins (f t.2.1) (x + t.2.2)) : rl f t = fun v => if v = t.2.1 then some (x + t.2.2) else f v := by
  unfold rl
  rw [q]
  exact if_pos z
theorem rl_lose {x : Int} (q : f t.1 = some x) (z : ¬ wins (f t.2.1) (x + t.2.2)) : rl f t = f := by
  unfold rl
  rw [q]
  exact if_neg z
theorem Snd.rl (S : Snd T s f) (m : t ∈ T) : Snd T s (rl f t) := by
  cases q : f t.1 with
  | none =>
    rw [rl_none q]
    exact S
  | some x =>
    by_cases z : wins (f t.2.1) (x + t.2.2)
    · rw [rl_win q z]
      intro v d e
      dsimp only at e
      split at e
      · rename_i hv
        have e2 := Option.some.inj e
        rw [hv, ← e2]
        exact .more (S _ _ q) m
      · exact S v d e
    · rw [rl_lose q z]
      exact S
theorem Ex1.rl (S : Snd T s f) (m : t ∈ T) {v : α} (x : Ex1 T s f v) : Ex1 T s (WM.rl f t) v := by
  obtain ⟨d, h1, h2⟩ := x
  obtain ⟨ta, tc, tn⟩ := t
  cases q : f ta with
  | none =>
    rw [rl_none (t := (ta, tc, tn)) q]
    exact ⟨d, h1, h2⟩
  | some y =>
    by_cases z : wins (f tc) (y + tn)
    · rw [rl_win (t := (ta, tc, tn)) q z]
      refine ⟨d, ?_, h2⟩
      dsimp only
      split
      · rename_i hv
        rw [hv] at h1 h2
        rw [h1] at z
        have z2 : y + tn < d := z
        have := h2.2 _ (Way.more (S _ _ q) m)
        omega
      · exact h1
    · rw [rl_lose (t := (ta, tc, tn)) q z]
      exact ⟨d, h1, h2⟩
theorem rl_settles (S : Snd T s f) (m : t ∈ T) {x : Int} (q : f t.1 = some x) (l : Least T s t.2.1 (x + t.2.2)) : Ex1 T s (rl f t) t.2.1 := by
  by_cases z : wins (f t.2.1) (x + t.2.2)
  · rw [rl_win q z]
    exact ⟨_, if_pos rfl, l⟩
  · rw [rl_lose q z]
    cases r : f t.2.1 with
    | none =>
      rw [r] at z
      exact absurd trivial z
    | some y =>
      rw [r] at z
      have z2 : ¬ (x + t.2.2 < y) := z
      have := l.2 _ (S _ _ r)
      have e : y = x + t.2.2 := by omega
      exact ⟨y, r, by rw [e]; exact l⟩
theorem fold_snd : ∀ (l : List (T3 α)) (f : Row α), (∀ t ∈ l, t ∈ T) → Snd T s f → Snd T s (l.foldl rl f)
  | [], _, _, S => S
  | t :: l, f, m, S => fold_snd l _ (fun u hu => m u (List.mem_cons_of_mem _ hu)) (S.rl (m t List.mem_cons_self))
theorem fold_ex : ∀ (l : List (T3 α)) (f : Row α), (∀ t ∈ l, t ∈ T) → Snd T s f → ∀ {v : α}, Ex1 T s f v → Ex1 T s (l.foldl rl f) v
  | [], _, _, _, _, x => x
  | t :: l, f, m, S, _, x => fold_ex l _ (fun u hu => m u (List.mem_cons_of_mem _ hu)) (S.rl (m t List.mem_cons_self)) (x.rl S (m t List.mem_cons_self))
theorem Snd.round (S : Snd T s f) : Snd T s (round T f) := fold_snd T f (fun _ m => m) S
theorem rounds_succ (T : List (T3 α)) : ∀ (k : Nat) (f : Row α), rounds T (k + 1) f = round T (rounds T k f)
  | 0, _ => rfl
  | k + 1, f => by
    show rounds T (k + 1) (round T f) = _
    rw [rounds_succ T k]
    rfl
/-- reached by a way, not settled -/
def Open1 (T : List (T3 α)) (s : α) (f : Row α) (v : α) : Prop := (∃ w, Way T s v w) ∧ ¬ Ex1 T s f v
theorem round_gain (F : Feas T h) (S : Snd T s f) (h0 : Ex1 T s f s) {v : α} (o : Open1 T s f v) : ∃ t ∈ T, Open1 T s f t.2.1 ∧ Ex1 T s (round T f) t.2.1 := by
  obtain ⟨⟨w, x⟩, ne⟩ := o
  obtain ⟨d, l⟩ := F.least x
  obtain ⟨a, c, d, n, m, ea, nc, la, lc⟩ := Least.leaves (E := Ex1 T s f) h0 l.1 l.2 ne
  refine ⟨(a, c, n), m, ⟨⟨_, lc.1⟩, nc⟩, ?_⟩
  obtain ⟨l1, l2, e⟩ := List.append_of_mem m
  have m1 : ∀ t ∈ l1, t ∈ T := fun t q => by
    rw [e]
    exact List.mem_append_left _ q
  have m2 : ∀ t ∈ l2, t ∈ T := fun t q => by
    rw [e]
    exact List.mem_append_right _ (List.mem_cons_of_mem _ q)
  have S1 := fold_snd l1 f m1 S
  obtain ⟨d', q1, q2⟩ := fold_ex l1 f m1 S ea
  have ed := q2.uniq la
  subst ed
  have er : WM.round T f = l2.foldl rl (rl (l1.foldl rl f) (a, c, n)) := by
    show T.foldl rl f = _
    rw [e, List.foldl_append, List.foldl_cons]
  rw [er]
  exact fold_ex l2 _ m2 (S1.rl m) (rl_settles S1 m q1 lc)
theorem filter_less {β : Type} {p q : β → Prop} [DecidablePred p] [DecidablePred q] : ∀ (l : List β), (∀ x ∈ l, p x → q x) → (∃ x ∈ l, q x ∧ ¬ p x) → (l.filter fun x => decide (p x)).length < (l.filter fun x => decide (q x)).length
  | [], _, x => by
    obtain ⟨_, m, _⟩ := x
    cases m
  | y :: l, i, x => by
    have le : ∀ (l : List β), (∀ x ∈ l, p x → q x) → (l.filter fun x => decide (p x)).length ≤ (l.filter fun x => decide (q x)).length := by
      intro l
      induction l with
      | nil => exact fun _ => Nat.le_refl _
      | cons z l ih =>
        intro i
        have r := ih fun x m => i x (List.mem_cons_of_mem _ m)
        by_cases pz : p z
        · rw [List.filter_cons_of_pos (by simpa using pz), List.filter_cons_of_pos (by simpa using i z List.mem_cons_self pz)]
          simpa using r
        · rw [List.filter_cons_of_neg (by simpa using pz)]
          by_cases qz : q z
          · rw [List.filter_cons_of_pos (by simpa using qz)]
            exact Nat.le_succ_of_le r
          · rw [List.filter_cons_of_neg (by simpa using qz)]
            exact r
    have i2 : ∀ x ∈ l, p x → q x := fun x m => i x (List.mem_cons_of_mem _ m)
    by_cases py : p y
    · have qy := i y List.mem_cons_self py
      rw [List.filter_cons_of_pos (by simpa using py), List.filter_cons_of_pos (by simpa using qy)]
      obtain ⟨x, m, qx, px⟩ := x
      rcases List.mem_cons.mp m with rfl | m
      · exact absurd py px
      · simpa using filter_less l i2 ⟨x, m, qx, px⟩
    · rw [List.filter_cons_of_neg (by simpa using py)]
      by_cases qy : q y
      · rw [List.filter_cons_of_pos (by simpa using qy)]
        exact Nat.lt_succ_of_le (le l i2)
      · rw [List.filter_cons_of_neg (by simpa using qy)]
        obtain ⟨x, m, qx, px⟩ := x
        rcases List.mem_cons.mp m with rfl | m
        · exact absurd qx qy
        · exact filter_less l i2 ⟨x, m, qx, px⟩
/-- how many of L are open -/
noncomputable def openN (T : List (T3 α)) (s : α) (L : List α) (f : Row α) : Nat := (L.filter fun v => decide (Open1 T s f v)).length
theorem openN_le (L : List α) : openN T s L f ≤ L.length := List.length_filter_le _ _
theorem openN_zero {L : List α} (h : openN T s L f = 0) {v : α} (m : v ∈ L) : ¬ Open1 T s f v := fun o => by
  have z : v ∈ L.filter fun v => decide (Open1 T s f v) := List.mem_filter.mpr ⟨m, decide_eq_true o⟩
  rw [List.length_eq_zero_iff.mp h] at z
  cases z
theorem open_round (S : Snd T s f) {v : α} (o : Open1 T s (round T f) v) : Open1 T s f v := ⟨o.1, fun e => o.2 (fold_ex T f (fun _ m => m) S e)⟩
/-- a round settles one more of those that a tie leads to, or nothing is open -/
theorem openN_round {L : List α} (F : Feas T h) (S : Snd T s f) (h0 : Ex1 T s f s) (hL : ∀ t ∈ T, t.2.1 ∈ L) : openN T s L (round T f) < openN T s L f ∨ ∀ v, ¬ Open1 T s f v := by
  by_cases q : ∃ v, Open1 T s f v
  · obtain ⟨v, o⟩ := q
    obtain ⟨t, m, o2, e⟩ := round_gain F S h0 o
    refine .inl (filter_less L (fun x _ o3 => open_round S o3) ⟨t.2.1, hL t m, o2, fun o3 => o3.2 e⟩)
  · exact .inr fun v o => q ⟨v, o⟩
theorem fix_of_none (S : Snd T s f) (z : ∀ v, ¬ Open1 T s f v) : Fix T f := fun a b n m d q => by
  have w := Way.more (S a d q) m
  by_cases e : Ex1 T s f b
  · obtain ⟨y, h1, h2⟩ := e
    exact ⟨y, h1, h2.2 _ w⟩
  · exact absurd ⟨⟨_, w⟩, e⟩ (z b)
theorem Fix.rl (x : Fix T f) (m : t ∈ T) : WM.rl f t = f := by
  cases q : f t.1 with
  | none => exact rl_none q
  | some y =>
    obtain ⟨e, h1, h2⟩ := x _ _ _ m y q
    refine rl_lose q fun z => ?_
    have h1' : f t.2.1 = some e := h1
    rw [h1'] at z
    have z2 : y + t.2.2 < e := z
    have h2' : e ≤ y + t.2.2 := h2
    omega
theorem fold_fix : ∀ (l : List (T3 α)), (∀ t ∈ l, t ∈ T) → Fix T f → l.foldl rl f = f
  | [], _, _ => rfl
  | t :: l, m, x => by
    rw [List.foldl_cons, x.rl (m t List.mem_cons_self)]
    exact fold_fix l (fun u hu => m u (List.mem_cons_of_mem _ hu)) x
theorem Fix.round (x : Fix T f) : WM.round T f = f := fold_fix T (fun _ m => m) x
theorem Ex1.round (S : Snd T s f) {v : α} (x : Ex1 T s f v) : Ex1 T s (WM.round T f) v := fold_ex T f (fun _ m => m) S x
theorem rounds_snd : ∀ (k : Nat) (f : Row α), Snd T s f → Snd T s (rounds T k f)
  | 0, _, S => S
  | k + 1, f, S => rounds_snd k _ S.round
theorem rounds_fix {L : List α} (F : Feas T h) (hL : ∀ t ∈ T, t.2.1 ∈ L) : ∀ (k : Nat) (f : Row α), Snd T s f → Ex1 T s f s → openN T s L f ≤ k → Fix T (rounds T k f)
  | 0, f, S, h0, hk => by
    rcases openN_round F S h0 hL with z | z
    · omega
    · exact fix_of_none S z
  | k + 1, f, S, h0, hk => by
    rcases openN_round F S h0 hL with z | z
    · exact rounds_fix F hL k _ S.round (h0.round S) (by omega)
    · have x := fix_of_none S z
      have e : ∀ k, rounds T k f = f := by
        intro k
        induction k with
        | zero => rfl
        | succ k ih =>
          show rounds T k (round T f) = f
          rw [x.round]
          exact ih
      rw [e]
      exact x
noncomputable def src (s : α) : Row α := fun v => if v = s then some 0 else none
theorem src_snd : Snd T s (src s) := fun v d q => by
  unfold src at q
  split at q
  · rename_i e
    rw [e, ← Option.some.inj q]
    exact .stay s
  · cases q
theorem src_ex (F : Feas T h) : Ex1 T s (src s) s := ⟨0, if_pos rfl, F.here s⟩
theorem rounds_src_at (F : Feas T h) : ∀ (k : Nat) (f : Row α), Snd T s f → Ex1 T s f s → Ex1 T s (rounds T k f) s
  | 0, _, _, x => x
  | k + 1, _, S, x => rounds_src_at F k _ S.round (x.round S)
theorem rounds_isD {L : List α} (F : Feas T h) (hL : ∀ t ∈ T, t.2.1 ∈ L) {k : Nat} (hk : L.length ≤ k) : IsD T s (rounds T k (src s)) := by
  have x := rounds_fix F hL k (src s) src_snd (src_ex F) (Nat.le_trans (openN_le L) hk)
  obtain ⟨d, h1, h2⟩ := rounds_src_at F k (src s) src_snd (src_ex F)
  exact isD_of (rounds_snd k _ src_snd) x h1 (Int.le_of_eq (h2.uniq (F.here s)))
end
end WM
namespace WM
open Classical
section
variable {α : Type} {T U : List (T3 α)} {h : α → Int}
/-! ### two names: the table -/
abbrev Tab (α : Type) := α → α → Option Int
noncomputable def setT (F : Tab α) (a b : α) (n : Int) : Tab α := fun x y => if x = a ∧ y = b then some n else F x y
noncomputable def tie2 (F : Tab α) (t : T3 α) : Tab α := if wins (F t.1 t.2.1) t.2.2 then setT F t.1 t.2.1 t.2.2 else F
noncomputable def mid2 (k a : α) (F : Tab α) (b : α) : Tab α := match F a k, F k b with
  | some x, some y => if wins (F a b) (x + y) then setT F a b (x + y) else F
  | _, _ => F
noncomputable def eye (names : List α) : Tab α := fun x y => if x = y ∧ x ∈ names then some 0 else none
noncomputable def midA (names : List α) (k : α) (F : Tab α) (a : α) : Tab α := names.foldl (mid2 k a) F
noncomputable def midK (names : List α) (F : Tab α) (k : α) : Tab α := names.foldl (midA names k) F
noncomputable def fw (T : List (T3 α)) (names : List α) : Tab α := names.foldl (midK names) (T.foldl tie2 (eye names))
def Snd2 (T : List (T3 α)) (F : Tab α) : Prop := ∀ a b d, F a b = some d → Way T a b d
/-- G has all that F has, none greater -/
def Dn (F G : Tab α) : Prop := ∀ a b d, F a b = some d → ∃ e, G a b = some e ∧ e ≤ d
theorem Dn.rfl' {F : Tab α} : Dn F F := fun _ _ d q => ⟨d, q, Int.le_refl d⟩
theorem Dn.trans {F G H : Tab α} (x : Dn F G) (y : Dn G H) : Dn F H := fun a b d q => by
  obtain ⟨e, q1, l1⟩ := x a b d q
  obtain ⟨z, q2, l2⟩ := y a b e q1
  exact ⟨z, q2, Int.le_trans l2 l1⟩
theorem setT_at {F : Tab α} {a b : α} {n : Int} : setT F a b n a b = some n := if_pos ⟨rfl, rfl⟩
theorem setT_ne {F : Tab α} {a b x y : α} {n : Int} (e : ¬ (x = a ∧ y = b)) : setT F a b n x y = F x y := if_neg e
theorem dn_set {F : Tab α} {a b : α} {n : Int} (w : wins (F a b) n) : Dn F (setT F a b n) := fun x y d q => by
  by_cases e : x = a ∧ y = b
  · obtain ⟨rfl, rfl⟩ := e
    rw [q] at w
    exact ⟨n, setT_at, Int.le_of_lt w⟩
  · exact ⟨d, by rw [setT_ne e]; exact q, Int.le_refl d⟩
theorem snd_set {F : Tab α} {a b : α} {n : Int} (S : Snd2 T F) (w : Way T a b n) : Snd2 T (setT F a b n) := fun x y d q => by
  by_cases e : x = a ∧ y = b
  · obtain ⟨rfl, rfl⟩ := e
    rw [setT_at] at q
    rw [← Option.some.inj q]
    exact w
  · rw [setT_ne e] at q
    exact S _ _ _ q
/-! the ties -/
theorem tie2_dn (F : Tab α) (t : T3 α) : Dn F (tie2 F t) := by
  unfold tie2
  split
  · exact dn_set (by assumption)
  · exact Dn.rfl'
theorem tie2_has (F : Tab α) (t : T3 α) : ∃ e, tie2 F t t.1 t.2.1 = some e ∧ e ≤ t.2.2 := by
  unfold tie2
  split
  · exact ⟨_, setT_at, Int.le_refl _⟩
  · rename_i w
    cases q : F t.1 t.2.1 with
    | none =>
      rw [q] at w
      exact absurd trivial w
    | some d =>
      rw [q] at w
      exact ⟨d, rfl, Int.not_lt.mp w⟩
theorem tie2_snd {F : Tab α} {t : T3 α} (S : Snd2 T F) (m : t ∈ T) : Snd2 T (tie2 F t) := by
  unfold tie2
  split
  · exact snd_set S (Way.one m)
  · exact S
theorem ties_ok : ∀ (l : List (T3 α)) (F : Tab α), (∀ t ∈ l, t ∈ T) → Snd2 T F → Snd2 T (l.foldl tie2 F) ∧ Dn F (l.foldl tie2 F) ∧ ∀ t ∈ l, ∃ e, l.foldl tie2 F t.1 t.2.1 = some e ∧ e ≤ t.2.2
  | [], F, _, S => ⟨S, Dn.rfl', fun _ m => nomatch m⟩
  | t :: l, F, m, S => by
    obtain ⟨h1, h2, h3⟩ := ties_ok l (tie2 F t) (fun u hu => m u (List.mem_cons_of_mem _ hu)) (tie2_snd S (m t List.mem_cons_self))
    refine ⟨h1, (tie2_dn F t).trans h2, fun u hu => ?_⟩
    rcases List.mem_cons.mp hu with rfl | hu
    · obtain ⟨e, q, l1⟩ := tie2_has F u
      obtain ⟨z, q2, l2⟩ := h2 _ _ _ q
      exact ⟨z, q2, Int.le_trans l2 l1⟩
    · exact h3 u hu
/-! one middle name: what stands behind it -/
/-- G comes from F by the middle k: the rows to and from k stay; what is in G is in F or a sum over k -/
structure Midd (F G : Tab α) (k : α) : Prop where
  dn : Dn F G
  to_ : ∀ a, G a k = F a k
  from_ : ∀ b, G k b = F k b
  org : ∀ a b z, G a b = some z → F a b = some z ∨ ∃ x y, F a k = some x ∧ F k b = some y ∧ z = x + y
theorem Midd.rfl' {F : Tab α} {k : α} : Midd F F k := ⟨Dn.rfl', fun _ => rfl, fun _ => rfl, fun _ _ _ q => .inl q⟩
theorem Midd.trans {F G H : Tab α} {k : α} (x : Midd F G k) (y : Midd G H k) : Midd F H k := by
  refine ⟨x.dn.trans y.dn, fun a => (y.to_ a).trans (x.to_ a), fun b => (y.from_ b).trans (x.from_ b), fun a b z q => ?_⟩
  rcases y.org a b z q with q | ⟨u, v, q1, q2, e⟩
  · exact x.org a b z q
  · rw [x.to_] at q1
    rw [x.from_] at q2
    exact .inr ⟨u, v, q1, q2, e⟩
theorem mid2_ok {F : Tab α} {k a b : α} (hk : F k k = some 0) : Midd F (mid2 k a F b) k ∧ ∀ x y, F a k = some x → F k b = some y → ∃ z, mid2 k a F b a b = some z ∧ z ≤ x + y := by
  unfold mid2
  cases h1 : F a k with
  | none => exact ⟨Midd.rfl', fun _ _ q => nomatch q⟩
  | some x =>
    cases h2 : F k b with
    | none => exact ⟨Midd.rfl', fun _ _ _ q => nomatch q⟩
    | some y =>
      dsimp only
      by_cases w : wins (F a b) (x + y)
      · rw [if_pos w]
        refine ⟨⟨dn_set w, fun c => ?_, fun c => ?_, fun c d z q => ?_⟩, fun x' y' e1 e2 => ⟨x + y, setT_at, by rw [Option.some.inj e1, Option.some.inj e2]; exact Int.le_refl _⟩⟩
        · by_cases e : c = a ∧ k = b
          · obtain ⟨rfl, rfl⟩ := e
            rw [h1] at w
            rw [hk] at h2
            have e2 := Option.some.inj h2
            have w2 : x + y < x := w
            omega
          · exact setT_ne e
        · by_cases e : k = a ∧ c = b
          · obtain ⟨rfl, rfl⟩ := e
            rw [h2] at w
            rw [hk] at h1
            have e2 := Option.some.inj h1
            have w2 : x + y < y := w
            omega
          · exact setT_ne e
        · by_cases e : c = a ∧ d = b
          · obtain ⟨rfl, rfl⟩ := e
            rw [setT_at] at q
            exact .inr ⟨x, y, h1, h2, (Option.some.inj q).symm⟩
          · rw [setT_ne e] at q
            exact .inl q
      · rw [if_neg w]
        refine ⟨Midd.rfl', fun x' y' e1 e2 => ?_⟩
        rw [← Option.some.inj e1, ← Option.some.inj e2]
        cases q : F a b with
        | none =>
          rw [q] at w
          exact absurd trivial w
        | some z =>
          rw [q] at w
          exact ⟨z, rfl, Int.not_lt.mp w⟩
theorem midA_ok {k a : α} : ∀ (l : List α) (F : Tab α), F k k = some 0 → Midd F (l.foldl (mid2 k a) F) k ∧ ∀ b ∈ l, ∀ x y, F a k = some x → F k b = some y → ∃ z, l.foldl (mid2 k a) F a b = some z ∧ z ≤ x + y
  | [], F, _ => ⟨Midd.rfl', fun _ m => nomatch m⟩
  | c :: l, F, hk => by
    obtain ⟨m1, m2⟩ := mid2_ok (a := a) (b := c) hk
    have hk2 : mid2 k a F c k k = some 0 := by
      rw [m1.to_]
      exact hk
    obtain ⟨n1, n2⟩ := midA_ok (k := k) (a := a) l (mid2 k a F c) hk2
    refine ⟨m1.trans n1, fun b hb x y q1 q2 => ?_⟩
    rcases List.mem_cons.mp hb with rfl | hb
    · obtain ⟨z, q, l1⟩ := m2 x y q1 q2
      obtain ⟨z2, q3, l2⟩ := n1.dn _ _ _ q
      exact ⟨z2, q3, Int.le_trans l2 l1⟩
    · exact n2 b hb x y (by rw [m1.to_]; exact q1) (by rw [m1.from_]; exact q2)
theorem midB_ok {k : α} {names : List α} : ∀ (l : List α) (F : Tab α), F k k = some 0 → Midd F (l.foldl (midA names k) F) k ∧ ∀ a ∈ l, ∀ b ∈ names, ∀ x y, F a k = some x → F k b = some y → ∃ z, l.foldl (midA names k) F a b = some z ∧ z ≤ x + y
  | [], F, _ => ⟨Midd.rfl', fun _ m => nomatch m⟩
  | c :: l, F, hk => by
    obtain ⟨m1, m2⟩ := midA_ok (k := k) (a := c) names F hk
    have hk2 : midA names k F c k k = some 0 := (m1.to_ k).trans hk
    obtain ⟨n1, n2⟩ := midB_ok (k := k) (names := names) l (midA names k F c) hk2
    refine ⟨m1.trans n1, fun a ha b hb x y q1 q2 => ?_⟩
    rcases List.mem_cons.mp ha with rfl | ha
    · obtain ⟨z, q, l1⟩ := m2 b hb x y q1 q2
      obtain ⟨z2, q3, l2⟩ := n1.dn _ _ _ q
      exact ⟨z2, q3, Int.le_trans l2 l1⟩
    · exact n2 a ha b hb x y ((m1.to_ a).trans q1) ((m1.from_ b).trans q2)
theorem midK_ok {k : α} {names : List α} {F : Tab α} (hk : F k k = some 0) : Midd F (midK names F k) k ∧ ∀ a ∈ names, ∀ b ∈ names, ∀ x y, F a k = some x → F k b = some y → ∃ z, midK names F k a b = some z ∧ z ≤ x + y := midB_ok names F hk
theorem Midd.snd {F G : Tab α} {k : α} (m : Midd F G k) (S : Snd2 T F) : Snd2 T G := fun a b d q => by
  rcases m.org a b d q with q | ⟨x, y, q1, q2, e⟩
  · exact S _ _ _ q
  · rw [e]
    exact (S _ _ _ q1).join (S _ _ _ q2)
/-- names alone -/
def Supp (names : List α) (F : Tab α) : Prop := ∀ a b d, F a b = some d → a ∈ names ∧ b ∈ names
def Tri (names M : List α) (F : Tab α) : Prop := ∀ m ∈ M, ∀ a ∈ names, ∀ b ∈ names, ∀ x y, F a m = some x → F m b = some y → ∃ z, F a b = some z ∧ z ≤ x + y
theorem tri_step {names M : List α} {F : Tab α} {k : α} (Fe : Feas T h) (S : Snd2 T F) (hM : ∀ m ∈ M, m ∈ names) (hk : F k k = some 0) (kn : k ∈ names) (X : Tri names M F) : Tri names (k :: M) (midK names F k) := by
  obtain ⟨m1, m2⟩ := midK_ok (names := names) hk
  intro m hm a ha b hb p q hp hq
  rcases List.mem_cons.mp hm with rfl | hm
  · rw [m1.to_] at hp
    rw [m1.from_] at hq
    exact m2 a ha b hb p q hp hq
  · have mn := hM m hm
    rcases m1.org _ _ _ hp with hp | ⟨x, y, e1, e2, e3⟩
    · rcases m1.org _ _ _ hq with hq | ⟨x', y', f1, f2, f3⟩
      · obtain ⟨z, g1, g2⟩ := X m hm a ha b hb p q hp hq
        obtain ⟨z2, g3, g4⟩ := m1.dn _ _ _ g1
        exact ⟨z2, g3, Int.le_trans g4 g2⟩
      · obtain ⟨z, g1, g2⟩ := X m hm a ha k kn p x' hp f1
        obtain ⟨z2, g3, g4⟩ := m2 a ha b hb z y' g1 f2
        exact ⟨z2, g3, by omega⟩
    · rcases m1.org _ _ _ hq with hq | ⟨x', y', f1, f2, f3⟩
      · obtain ⟨z, g1, g2⟩ := X m hm k kn b hb y q e2 hq
        obtain ⟨z2, g3, g4⟩ := m2 a ha b hb x z e1 g1
        exact ⟨z2, g3, by omega⟩
      · obtain ⟨z2, g3, g4⟩ := m2 a ha b hb x y' e1 f2
        have c := Fe.ring ((S _ _ _ e2).join (S _ _ _ f1))
        exact ⟨z2, g3, by omega⟩
theorem diag {F : Tab α} {a : α} {d : Int} (Fe : Feas T h) (S : Snd2 T F) (q : F a a = some d) (l : d ≤ 0) : F a a = some 0 := by
  have := Fe.ring (S _ _ _ q)
  have e : d = 0 := by omega
  rw [q, e]
theorem fw_loop {names : List α} (Fe : Feas T h) : ∀ (l M : List α) (F : Tab α), (∀ m ∈ l, m ∈ names) → (∀ m ∈ M, m ∈ names) → Snd2 T F → (∀ a ∈ names, F a a = some 0) → Tri names M F →
    Snd2 T (l.foldl (midK names) F) ∧ Dn F (l.foldl (midK names) F) ∧ Tri names (l.reverse ++ M) (l.foldl (midK names) F) ∧ ∀ a ∈ names, l.foldl (midK names) F a a = some 0
  | [], M, F, _, _, S, hd, X => ⟨S, Dn.rfl', X, hd⟩
  | k :: l, M, F, hl, hM, S, hd, X => by
    have kn := hl k List.mem_cons_self
    obtain ⟨m1, m2⟩ := midK_ok (names := names) (hd k kn)
    have S2 := m1.snd S
    have hd2 : ∀ a ∈ names, midK names F k a a = some 0 := fun a ha => by
      obtain ⟨e, q, l⟩ := m1.dn _ _ _ (hd a ha)
      exact diag Fe S2 q l
    obtain ⟨r1, r2, r3, r4⟩ := fw_loop (names := names) Fe l (k :: M) (midK names F k) (fun m q => hl m (List.mem_cons_of_mem _ q)) (fun m q => by
      rcases List.mem_cons.mp q with rfl | q
      · exact kn
      · exact hM m q) S2 hd2 (tri_step Fe S hM (hd k kn) kn X)
    refine ⟨r1, m1.dn.trans r2, ?_, r4⟩
    rw [List.reverse_cons, List.append_assoc]
    exact r3
theorem eye_snd (names : List α) : Snd2 T (eye names) := fun a b d q => by
  unfold eye at q
  split at q
  · rename_i e
    rw [← e.1, ← Option.some.inj q]
    exact .stay a
  · cases q
/-- what the table says of a name of its own -/
theorem fw_isD {names : List α} (Fe : Feas T h) (hT : ∀ a b n, (a, b, n) ∈ T → a ∈ names ∧ b ∈ names) {s : α} (hs : s ∈ names) : IsD T s (fw T names s) := by
  obtain ⟨t1, t2, t3⟩ := ties_ok (T := T) T (eye names) (fun _ m => m) (eye_snd names)
  have d1 : ∀ a ∈ names, T.foldl tie2 (eye names) a a = some 0 := fun a ha => by
    obtain ⟨e, q, l⟩ := t2 a a 0 (if_pos ⟨rfl, ha⟩)
    exact diag Fe t1 q l
  obtain ⟨r1, r2, r3, r4⟩ := fw_loop (names := names) Fe names [] (T.foldl tie2 (eye names)) (fun _ m => m) (fun _ m => nomatch m) t1 d1 (fun _ m => nomatch m)
  refine isD_of (fun v d q => r1 s v d q) (fun a b n m d q => ?_) (r4 s hs) (Int.le_refl 0)
  obtain ⟨ma, mb⟩ := hT a b n m
  obtain ⟨e, q1, l1⟩ := t3 (a, b, n) m
  obtain ⟨z, q2, l2⟩ := r2 _ _ _ q1
  have am : a ∈ names.reverse ++ [] := List.mem_append_left _ (List.mem_reverse.mpr ma)
  obtain ⟨y, q3, l3⟩ := r3 a am s hs b mb d z q q2
  exact ⟨y, q3, by
    have l1' : e ≤ n := l1
    omega⟩
/-- other names are not in it -/
theorem supp_set {names : List α} {F : Tab α} {a b : α} {n : Int} (S : Supp names F) (ha : a ∈ names) (hb : b ∈ names) : Supp names (setT F a b n) := fun x y d q => by
  by_cases e : x = a ∧ y = b
  · obtain ⟨rfl, rfl⟩ := e
    exact ⟨ha, hb⟩
  · rw [setT_ne e] at q
    exact S _ _ _ q
theorem supp_tie {names : List α} : ∀ (l : List (T3 α)) (F : Tab α), (∀ a b n, (a, b, n) ∈ l → a ∈ names ∧ b ∈ names) → Supp names F → Supp names (l.foldl tie2 F)
  | [], _, _, S => S
  | (a, b, n) :: l, F, m, S => by
    refine supp_tie l _ (fun a b n q => m a b n (List.mem_cons_of_mem _ q)) ?_
    unfold tie2
    split
    · exact supp_set S (m a b n List.mem_cons_self).1 (m a b n List.mem_cons_self).2
    · exact S
theorem supp_mid2 {names : List α} {F : Tab α} {k a b : α} (S : Supp names F) : Supp names (mid2 k a F b) := by
  unfold mid2
  cases h1 : F a k with
  | none => exact S
  | some x =>
    cases h2 : F k b with
    | none => exact S
    | some y =>
      dsimp only
      split
      · exact supp_set S (S _ _ _ h1).1 (S _ _ _ h2).2
      · exact S
theorem supp_fold {names : List α} {β : Type} {g : Tab α → β → Tab α} (hg : ∀ F b, Supp names F → Supp names (g F b)) : ∀ (l : List β) (F : Tab α), Supp names F → Supp names (l.foldl g F)
  | [], _, S => S
  | b :: l, F, S => supp_fold hg l _ (hg F b S)
theorem fw_supp {names : List α} (hT : ∀ a b n, (a, b, n) ∈ T → a ∈ names ∧ b ∈ names) : Supp names (fw T names) :=
  supp_fold (fun F k S => supp_fold (fun F a S => supp_fold (fun F b S => supp_mid2 S) names F S) names F S) names _ (supp_tie T _ hT fun a b d q => by
    unfold eye at q
    split at q
    · rename_i e
      exact ⟨e.2, e.1 ▸ e.2⟩
    · cases q)
/-! how great its numbers can be -/
def Bd (B : Int) (F : Tab α) : Prop := ∀ a b d, F a b = some d → -B ≤ d ∧ d ≤ B
theorem bd_tie {B : Int} (hB : 0 ≤ B) : ∀ (l : List (T3 α)) (F : Tab α), (∀ a b n, (a, b, n) ∈ l → -B ≤ n ∧ n ≤ B) → Bd B F → Bd B (l.foldl tie2 F)
  | [], _, _, S => S
  | (a, b, n) :: l, F, m, S => by
    refine bd_tie hB l _ (fun a b n q => m a b n (List.mem_cons_of_mem _ q)) ?_
    unfold tie2
    split
    · intro x y d q
      by_cases e : x = a ∧ y = b
      · obtain ⟨rfl, rfl⟩ := e
        rw [setT_at] at q
        rw [← Option.some.inj q]
        exact m x y n List.mem_cons_self
      · rw [setT_ne e] at q
        exact S _ _ _ q
    · exact S
theorem bd_mid {names : List α} {F : Tab α} {k : α} {B : Int} (hB : 0 ≤ B) (hk : F k k = some 0) (S : Bd B F) : Bd (2 * B) (midK names F k) := fun a b d q => by
  rcases (midK_ok (names := names) hk).1.org a b d q with q | ⟨x, y, q1, q2, e⟩
  · have := S _ _ _ q
    omega
  · have := S _ _ _ q1
    have := S _ _ _ q2
    omega
theorem fw_bdl {names : List α} (Fe : Feas T h) : ∀ (l : List α) (F : Tab α) (B : Int), 0 ≤ B → (∀ m ∈ l, m ∈ names) → Snd2 T F → (∀ a ∈ names, F a a = some 0) → Bd B F → Bd (2 ^ l.length * B) (l.foldl (midK names) F)
  | [], F, B, _, _, _, _, b => by
    show Bd (2 ^ 0 * B) F
    rw [Int.pow_zero, Int.one_mul]
    exact b
  | k :: l, F, B, hB, hl, S, hd, b => by
    have kn := hl k List.mem_cons_self
    obtain ⟨m1, m2⟩ := midK_ok (names := names) (hd k kn)
    have S2 := m1.snd S
    have r := fw_bdl (names := names) Fe l (midK names F k) (2 * B) (by omega) (fun m q => hl m (List.mem_cons_of_mem _ q)) S2 (fun a ha => by
      obtain ⟨e, q, l⟩ := m1.dn _ _ _ (hd a ha)
      exact diag Fe S2 q l) (bd_mid hB (hd k kn) b)
    have e : (2 : Int) ^ (k :: l).length * B = 2 ^ l.length * (2 * B) := by
      rw [List.length_cons, Int.pow_succ, Int.mul_assoc]
    rw [e]
    exact r
theorem fw_bd {names : List α} {B : Int} (Fe : Feas T h) (hB : 0 ≤ B) (hn : ∀ a b n, (a, b, n) ∈ T → -B ≤ n ∧ n ≤ B) : Bd (2 ^ names.length * B) (fw T names) := by
  obtain ⟨t1, t2, t3⟩ := ties_ok (T := T) T (eye names) (fun _ m => m) (eye_snd names)
  refine fw_bdl (names := names) Fe names _ B hB (fun _ m => m) t1 (fun a ha => ?_) (bd_tie hB T _ hn fun a b d q => ?_)
  · obtain ⟨e, q, l⟩ := t2 a a 0 (if_pos ⟨rfl, ha⟩)
    exact diag Fe t1 q l
  · unfold eye at q
    split at q
    · rw [← Option.some.inj q]
      omega
    · cases q
end
end WM
namespace WM
open Classical
section
variable {α : Type} {T U W : List (T3 α)} {h : α → Int}
/-! ### what follows from the others -/
def Imp (U : List (T3 α)) (t : T3 α) : Prop := ∃ w, Way U t.1 t.2.1 w ∧ w ≤ t.2.2
def without (l : List (T3 α)) (k : Nat) : List (T3 α) := l.take k ++ l.drop (k + 1)
theorem without_len {l : List (T3 α)} {k : Nat} (q : k < l.length) : (without l k).length + 1 = l.length := by
  unfold without
  rw [List.length_append, List.length_take, List.length_drop]
  omega
noncomputable def lean (l : List (T3 α)) (k : Nat) : List (T3 α) :=
  if q : k < l.length then (if Imp (without l k) l[k] then lean (without l k) k else lean l (k + 1)) else l
termination_by l.length - k
decreasing_by
  · have := without_len q
    omega
  · omega
theorem lean_out {l : List (T3 α)} {k : Nat} (q : ¬ k < l.length) : lean l k = l := by
  rw [lean, dif_neg q]
theorem lean_yes {l : List (T3 α)} {k : Nat} (q : k < l.length) (z : Imp (without l k) l[k]) : lean l k = lean (without l k) k := by
  rw [lean, dif_pos q, if_pos z]
theorem lean_no {l : List (T3 α)} {k : Nat} (q : k < l.length) (z : ¬ Imp (without l k) l[k]) : lean l k = lean l (k + 1) := by
  rw [lean, dif_pos q, if_neg z]
/-- U is a part of T and says as much -/
structure Dom (U T : List (T3 α)) : Prop where
  sub : ∀ t ∈ U, t ∈ T
  way : ∀ a b w, Way T a b w → ∃ v, Way U a b v ∧ v ≤ w
theorem Dom.rfl' : Dom T T := ⟨fun _ m => m, fun _ _ w q => ⟨w, q, Int.le_refl w⟩⟩
theorem Dom.trans (x : Dom U T) (y : Dom W U) : Dom W T := ⟨fun t m => x.sub t (y.sub t m), fun a b w q => by
  obtain ⟨v, q1, l1⟩ := x.way a b w q
  obtain ⟨u, q2, l2⟩ := y.way a b v q1
  exact ⟨u, q2, Int.le_trans l2 l1⟩⟩
theorem Dom.least (x : Dom U T) {a b : α} {d : Int} : Least U a b d ↔ Least T a b d := by
  constructor
  · rintro ⟨p, q⟩
    refine ⟨p.mono x.sub, fun w z => ?_⟩
    obtain ⟨v, q1, l1⟩ := x.way a b w z
    exact Int.le_trans (q v q1) l1
  · rintro ⟨p, q⟩
    obtain ⟨v, q1, l1⟩ := x.way a b d p
    have := q v (q1.mono x.sub)
    have e : v = d := by omega
    subst e
    exact ⟨q1, fun w z => q w (z.mono x.sub)⟩
theorem dom_without {l : List (T3 α)} {k : Nat} (q : k < l.length) (z : Imp (without l k) l[k]) : Dom (without l k) l := by
  refine ⟨fun t m => ?_, fun a b w x => ?_⟩
  · rcases List.mem_append.mp m with m | m
    · exact List.mem_of_mem_take m
    · exact List.mem_of_mem_drop m
  · induction x with
    | stay => exact ⟨0, .stay _, Int.le_refl 0⟩
    | @more b c w n x m ih =>
      obtain ⟨v, y, l1⟩ := ih
      have e : l = l.take k ++ l[k] :: l.drop (k + 1) := by
        rw [← List.drop_eq_getElem_cons q, List.take_append_drop]
      rw [e] at m
      rcases List.mem_append.mp m with m | m
      · exact ⟨v + n, .more y (List.mem_append_left _ m), by omega⟩
      · rcases List.mem_cons.mp m with m | m
        · obtain ⟨u, p, l2⟩ := z
          rw [← m] at p l2
          have l3 : u ≤ n := l2
          exact ⟨v + u, y.join p, by omega⟩
        · exact ⟨v + n, .more y (List.mem_append_right _ m), by omega⟩
theorem lean_dom (l : List (T3 α)) (k : Nat) : Dom (lean l k) l := by
  induction l, k using lean.induct with
  | case1 l k q z ih =>
    rw [lean_yes q z]
    exact (dom_without q z).trans ih
  | case2 l k q z ih =>
    rw [lean_no q z]
    exact ih
  | case3 l k q =>
    rw [lean_out q]
    exact Dom.rfl'
/-- the ends of ties stay -/
theorem Dom.ends (x : Dom U T) (hT : ∀ a b n, (a, b, n) ∈ T → a ≠ b) {c : α} : (∃ a b n, (a, b, n) ∈ T ∧ (c = a ∨ c = b)) ↔ ∃ a b n, (a, b, n) ∈ U ∧ (c = a ∨ c = b) := by
  constructor
  · rintro ⟨a, b, n, m, e⟩
    obtain ⟨v, y, _⟩ := x.way a b n (Way.one m)
    have ne := hT a b n m
    have first : ∀ {b : α} {v : Int}, Way U a b v → a ≠ b → ∃ c n, (a, c, n) ∈ U := fun {b v} y => by
      induction y with
      | stay => exact fun ne => absurd rfl ne
      | @more b c w n x m ih =>
        intro ne
        by_cases e : a = b
        · exact ⟨c, n, e ▸ m⟩
        · exact ih e
    rcases e with e | e
    · obtain ⟨d, k, m2⟩ := first y ne
      exact ⟨a, d, k, m2, .inl e⟩
    · cases y with
      | stay => exact absurd rfl ne
      | more z m2 => exact ⟨_, b, _, m2, .inr e⟩
  · rintro ⟨a, b, n, m, e⟩
    exact ⟨a, b, n, x.sub _ m, e⟩
theorem Feas.mono (f : Feas T h) (s : ∀ t ∈ U, t ∈ T) : Feas U h := fun a b n m => f a b n (s _ m)

/-! ### days for some names go on to days for all -/
theorem bound_list (g : α → Int) : ∀ l : List α, ∃ N : Int, 0 ≤ N ∧ ∀ x ∈ l, -N ≤ g x ∧ g x ≤ N
  | [] => ⟨0, Int.le_refl 0, fun _ m => nomatch m⟩
  | x :: l => by
    obtain ⟨N, h0, h1⟩ := bound_list g l
    refine ⟨N + ((g x).natAbs : Int), by omega, fun y m => ?_⟩
    rcases List.mem_cons.mp m with rfl | m
    · omega
    · have := h1 y m
      omega
/-- c keeps all that follows for the names of L; then some days of all agree with it -/
theorem goes_on {L : List α} {c : α → Int} (F : Feas T h) (hc : ∀ a ∈ L, ∀ b ∈ L, ∀ d, Least T a b d → c b ≤ c a + d) : ∃ p : α → Int, Feas T p ∧ ∀ a ∈ L, p a = c a := by
  obtain ⟨N, h0, h1⟩ := bound_list (fun x => c x - h x) L
  let P (v : α) (x : Int) : Prop := x = h v + N ∨ ∃ a ∈ L, ∃ d, Least T a v d ∧ x = c a + d
  have low : ∀ v x, P v x → h v - N ≤ x := fun v x q => by
    rcases q with q | ⟨a, m, d, l, q⟩
    · omega
    · have z1 := F.way l.1
      have z2 := (h1 a m).1
      omega
  have ex : ∀ v, ∃ x, P v x ∧ ∀ y, P v y → x ≤ y := fun v => least_int (B := h v - N) _ (h v + N) (.inl rfl) (low v) (Nat.le_refl _)
  refine ⟨fun v => Classical.choose (ex v), fun a b n m => ?_, fun a ha => ?_⟩
  · obtain ⟨pa, la⟩ := Classical.choose_spec (ex a)
    obtain ⟨pb, lb⟩ := Classical.choose_spec (ex b)
    show Classical.choose (ex b) ≤ Classical.choose (ex a) + n
    rcases pa with q | ⟨x, mx, d, l, q⟩
    · have z1 := lb _ (.inl rfl)
      have z2 := F a b n m
      omega
    · obtain ⟨e, le⟩ := F.least (Way.more l.1 m)
      have z1 := le.2 _ (Way.more l.1 m)
      have z2 := lb _ (.inr ⟨x, mx, e, le, rfl⟩)
      omega
  · obtain ⟨pa, la⟩ := Classical.choose_spec (ex a)
    have z1 := la _ (.inr ⟨a, ha, 0, F.here a, rfl⟩)
    show Classical.choose (ex a) = c a
    rcases pa with q | ⟨x, mx, d, l, q⟩
    · have z2 := (h1 a ha).2
      omega
    · have z2 := hc x mx a ha d l
      omega

/-! ### days for all names at once, or a ring -/
structure PS (α : Type) where
  w : α → Int
  c : α → Option Nat
  s : α → Nat
  mv : Option α
noncomputable def pstep (tm : Nat) (st : PS α) (i : Nat) (t : T3 α) : PS α :=
  if st.w t.1 + t.2.2 < st.w t.2.1 then ⟨fun v => if v = t.2.1 then st.w t.1 + t.2.2 else st.w v, fun v => if v = t.2.1 then some i else st.c v, fun v => if v = t.2.1 then tm else st.s v, some t.2.1⟩ else st
/-- rows from the i-th on, at the time tm -/
noncomputable def pround : List (T3 α) → Nat → Nat → PS α → PS α
  | [], _, _, st => st
  | t :: r, i, tm, st => pround r (i + 1) (tm + 1) (pstep (tm + 1) st i t)
theorem pround_snoc (t : T3 α) : ∀ (l : List (T3 α)) (i tm : Nat) (st : PS α), pround (l ++ [t]) i tm st = pstep (tm + l.length + 1) (pround l i tm st) (i + l.length) t
  | [], _, _, _ => rfl
  | u :: l, i, tm, st => by
    show pround (l ++ [t]) (i + 1) (tm + 1) (pstep (tm + 1) st i u) = _
    rw [pround_snoc t l]
    show pstep (tm + 1 + l.length + 1) (pround l (i + 1) (tm + 1) (pstep (tm + 1) st i u)) (i + 1 + l.length) t = pstep (tm + (l.length + 1) + 1) (pround l (i + 1) (tm + 1) (pstep (tm + 1) st i u)) (i + (l.length + 1)) t
    rw [show tm + 1 + l.length + 1 = tm + (l.length + 1) + 1 by omega, show i + 1 + l.length = i + (l.length + 1) by omega]
def fresh (st : PS α) : PS α := ⟨st.w, st.c, st.s, none⟩
noncomputable def prounds (T : List (T3 α)) : Nat → PS α
  | 0 => ⟨fun _ => 0, fun _ => none, fun _ => 0, none⟩
  | k + 1 => pround T 0 (k * T.length) (fresh (prounds T k))
theorem pstep_still {tm i : Nat} {st : PS α} {t : T3 α} (z : (pstep tm st i t).mv = none) : pstep tm st i t = st ∧ st.w t.2.1 ≤ st.w t.1 + t.2.2 := by
  unfold pstep at z ⊢
  split at z
  · cases z
  · rename_i q
    rw [if_neg q]
    exact ⟨rfl, Int.not_lt.mp q⟩
theorem pstep_mv {tm i : Nat} {st : PS α} {t : T3 α} {x : α} (z : st.mv = some x) : ∃ y, (pstep tm st i t).mv = some y := by
  unfold pstep
  split
  · exact ⟨_, rfl⟩
  · exact ⟨x, z⟩
theorem pround_mv : ∀ (l : List (T3 α)) (i tm : Nat) (st : PS α) (x : α), st.mv = some x → ∃ y, (pround l i tm st).mv = some y
  | [], _, _, _, x, z => ⟨x, z⟩
  | t :: l, i, tm, st, x, z => by
    obtain ⟨y, q⟩ := pstep_mv (tm := tm + 1) (i := i) (t := t) z
    exact pround_mv l _ _ _ y q
theorem pround_still : ∀ (l : List (T3 α)) (i tm : Nat) (st : PS α), (pround l i tm st).mv = none → pround l i tm st = st ∧ ∀ a b n, (a, b, n) ∈ l → st.w b ≤ st.w a + n
  | [], _, _, _, _ => ⟨rfl, fun _ _ _ m => nomatch m⟩
  | t :: l, i, tm, st, z => by
    have z1 : (pstep (tm + 1) st i t).mv = none := by
      cases q : (pstep (tm + 1) st i t).mv with
      | none => rfl
      | some x =>
        obtain ⟨y, q2⟩ := pround_mv l (i + 1) (tm + 1) _ x q
        rw [show pround (t :: l) i tm st = pround l (i + 1) (tm + 1) (pstep (tm + 1) st i t) from rfl, q2] at z
        cases z
    obtain ⟨e1, k1⟩ := pstep_still z1
    have z2 : (pround l (i + 1) (tm + 1) st).mv = none := by
      rw [← e1]
      exact z
    obtain ⟨e2, k2⟩ := pround_still l (i + 1) (tm + 1) st z2
    refine ⟨by rw [show pround (t :: l) i tm st = pround l (i + 1) (tm + 1) (pstep (tm + 1) st i t) from rfl, e1, e2], fun a b n m => ?_⟩
    rcases List.mem_cons.mp m with m | m
    · rw [← m] at k1
      exact k1
    · exact k2 a b n m
/-- a round without a change: days -/
theorem prounds_days {k : Nat} (z : (prounds T (k + 1)).mv = none) : Feas T (prounds T (k + 1)).w := by
  obtain ⟨e, q⟩ := pround_still T 0 (k * T.length) (fresh (prounds T k)) z
  intro a b n m
  rw [show prounds T (k + 1) = pround T 0 (k * T.length) (fresh (prounds T k)) from rfl, e]
  exact q a b n m
/-- what holds ahead of the i-th tie of round j -/
structure PI (T : List (T3 α)) (j i : Nat) (st : PS α) : Prop where
  came : ∀ v e, st.c v = some e → ∃ a n, T[e]? = some (a, v, n) ∧ st.w a + n ≤ st.w v ∧ (st.s v < st.s a → st.w a + n < st.w v) ∧ st.s v ≤ st.s a + T.length ∧ 1 ≤ st.s v
  has : ∀ v, 1 ≤ st.s v → ∃ e, st.c v = some e
  late : ∀ v, st.s v ≤ j * T.length + i
  inj : ∀ u v, st.s u = st.s v → st.s u = 0 ∨ u = v
  done : ∀ k a b n, T[k]? = some (a, b, n) → k < i → st.w b ≤ st.w a + n ∨ j * T.length + k + 1 ≤ st.s a
  due : ∀ k a b n, T[k]? = some (a, b, n) → i ≤ k → st.w b ≤ st.w a + n ∨ j * T.length + k + 1 ≤ st.s a + T.length
  mv : ∀ x, st.mv = some x → j * T.length + 1 ≤ st.s x
theorem pi_step {j i : Nat} {st : PS α} {a b : α} {n : Int} (ne : ∀ a b n, (a, b, n) ∈ T → a ≠ b) (I : PI T j i st) (hi : T[i]? = some (a, b, n)) : PI T j (i + 1) (pstep (j * T.length + i + 1) st i (a, b, n)) := by
  have hlt : i < T.length := (List.getElem?_eq_some_iff.mp hi).1
  have hab : a ≠ b := ne a b n (List.mem_of_getElem? hi)
  unfold pstep
  dsimp only
  by_cases z : st.w a + n < st.w b
  · rw [if_pos z]
    have ha : j * T.length + i + 1 ≤ st.s a + T.length := by
      rcases I.due i a b n hi (Nat.le_refl i) with q | q
      · omega
      · exact q
    refine ⟨fun v e q => ?_, fun v q => ?_, fun v => ?_, fun u v q => ?_, fun k x y m hk lk => ?_, fun k x y m hk lk => ?_, fun x q => ?_⟩
    · dsimp only at q ⊢
      by_cases hv : v = b
      · rw [if_pos hv] at q
        have e2 := Option.some.inj q
        subst e2
        refine ⟨a, n, by rw [hv]; exact hi, ?_⟩
        rw [if_neg hab, if_neg hab, if_pos hv, if_pos hv]
        have := I.late a
        exact ⟨Int.le_refl _, fun q => absurd q (by omega), ha, by omega⟩
      · rw [if_neg hv] at q
        obtain ⟨x, m, q1, q2, q3, q4, q5⟩ := I.came v e q
        refine ⟨x, m, q1, ?_⟩
        rw [if_neg hv, if_neg hv]
        by_cases hx : x = b
        · rw [if_pos hx, if_pos hx]
          rw [hx] at q2
          have := I.late v
          exact ⟨by omega, fun _ => by omega, by omega, q5⟩
        · rw [if_neg hx, if_neg hx]
          exact ⟨q2, q3, q4, q5⟩
    · dsimp only at q ⊢
      by_cases hv : v = b
      · rw [if_pos hv]
        exact ⟨i, rfl⟩
      · rw [if_neg hv] at q ⊢
        exact I.has v q
    · dsimp only
      have := I.late v
      by_cases hv : v = b
      · rw [if_pos hv]
        omega
      · rw [if_neg hv]
        omega
    · dsimp only at q ⊢
      have lu := I.late u
      have lv := I.late v
      by_cases hu : u = b
      · by_cases hv : v = b
        · exact .inr (hu.trans hv.symm)
        · rw [if_pos hu, if_neg hv] at q
          omega
      · by_cases hv : v = b
        · rw [if_neg hu, if_pos hv] at q
          omega
        · rw [if_neg hu, if_neg hv] at q
          rw [if_neg hu]
          exact I.inj u v q
    · dsimp only
      have hxy : x ≠ y := ne x y m (List.mem_of_getElem? hk)
      by_cases hx : x = b
      · right
        rw [if_pos hx]
        have : j * T.length + k + 1 ≤ j * T.length + i + 1 := by omega
        exact this
      · rw [if_neg hx, if_neg hx]
        by_cases hki : k = i
        · subst hki
          rw [hi] at hk
          have e := Option.some.inj hk
          injection e with e1 e2
          injection e2 with e2 e3
          subst e1 e2 e3
          left
          rw [if_pos rfl]
          exact Int.le_refl _
        · rcases I.done k x y m hk (by omega) with q | q
          · left
            by_cases hy : y = b
            · rw [if_pos hy]
              rw [hy] at q
              omega
            · rw [if_neg hy]
              exact q
          · exact .inr q
    · dsimp only
      have hkl : k < T.length := (List.getElem?_eq_some_iff.mp hk).1
      by_cases hx : x = b
      · right
        rw [if_pos hx]
        omega
      · rw [if_neg hx, if_neg hx]
        rcases I.due k x y m hk (by omega) with q | q
        · left
          by_cases hy : y = b
          · rw [if_pos hy]
            rw [hy] at q
            omega
          · rw [if_neg hy]
            exact q
        · exact .inr q
    · dsimp only at q ⊢
      rw [← Option.some.inj q, if_pos rfl]
      omega
  · rw [if_neg z]
    refine ⟨I.came, I.has, fun v => Nat.le_succ_of_le (I.late v), I.inj, fun k x y m hk lk => ?_, fun k x y m hk lk => I.due k x y m hk (by omega), I.mv⟩
    by_cases hki : k = i
    · subst hki
      rw [hi] at hk
      have e := Option.some.inj hk
      injection e with e1 e2
      injection e2 with e2 e3
      subst e1 e2 e3
      exact .inl (Int.not_lt.mp z)
    · exact I.done k x y m hk (by omega)
theorem pi_round {j : Nat} (ne : ∀ a b n, (a, b, n) ∈ T → a ≠ b) : ∀ (l : List (T3 α)) (i : Nat) (st : PS α), T.drop i = l → PI T j i st → PI T j (i + l.length) (pround l i (j * T.length + i) st)
  | [], i, st, _, I => I
  | (a, b, n) :: l, i, st, e, I => by
    have hi : T[i]? = some (a, b, n) := by
      have q : (T.drop i)[0]? = some (a, b, n) := by
        rw [e]
        rfl
      rw [List.getElem?_drop] at q
      exact q
    have e2 : T.drop (i + 1) = l := by
      rw [← List.drop_drop, e]
      rfl
    have r := pi_round ne l (i + 1) _ e2 (pi_step ne I hi)
    rw [show i + 1 + l.length = i + ((a, b, n) :: l).length by
      rw [List.length_cons]
      omega] at r
    exact r
theorem pi_rounds (ne : ∀ a b n, (a, b, n) ∈ T → a ≠ b) : ∀ k, PI T k T.length (prounds T (k + 1))
  | 0 => by
    have I : PI T 0 0 (fresh (prounds T 0)) := ⟨(fun _ _ q => nomatch q), fun v (q : 1 ≤ 0) => absurd q (by omega), fun _ => Nat.zero_le _, fun _ _ _ => .inl rfl, fun k _ _ _ _ q => absurd q (by omega), fun k a b n hk _ => .inr (by
      have := (List.getElem?_eq_some_iff.mp hk).1
      omega), (fun _ q => nomatch q)⟩
    have r := pi_round (j := 0) ne T 0 (fresh (prounds T 0)) rfl I
    rw [Nat.zero_add] at r
    exact r
  | k + 1 => by
    have I0 := pi_rounds ne k
    have I : PI T (k + 1) 0 (fresh (prounds T (k + 1))) := by
      refine ⟨I0.came, I0.has, fun v => ?_, I0.inj, fun k _ _ _ _ q => absurd q (by omega), fun m a b n hk _ => ?_, fun _ q => nomatch q⟩
      · have := I0.late v
        rw [Nat.succ_mul]
        exact this
      · have hm := (List.getElem?_eq_some_iff.mp hk).1
        rcases I0.done m a b n hk hm with q | q
        · exact .inl q
        · right
          rw [Nat.succ_mul]
          show k * T.length + T.length + m + 1 ≤ (prounds T (k + 1)).s a + T.length
          omega
    have r := pi_round (j := k + 1) ne T 0 (fresh (prounds T (k + 1))) rfl I
    rw [Nat.zero_add] at r
    exact r
end
end WM
namespace WM
open Classical
section
variable {α : Type} {T : List (T3 α)} {h : α → Int}
def srcOf (T : List (T3 α)) (st : PS α) (v : α) : α := match st.c v with
  | some e => (match T[e]? with
    | some t => t.1
    | none => v)
  | none => v
def cnOf (st : PS α) (v : α) : Nat := (st.c v).getD 0
def nOf (T : List (T3 α)) (e : Nat) : Int := match T[e]? with
  | some t => t.2.2
  | none => 0
def it (T : List (T3 α)) (st : PS α) : Nat → α → α
  | 0, v => v
  | k + 1, v => srcOf T st (it T st k v)
theorem it_add {st : PS α} {v : α} (a : Nat) : ∀ b, it T st (a + b) v = it T st b (it T st a v)
  | 0 => rfl
  | b + 1 => by
    show srcOf T st (it T st (a + b) v) = srcOf T st (it T st b (it T st a v))
    rw [it_add a b]
theorem least_nat {P : Nat → Prop} : ∀ (n : Nat), P n → ∃ m, P m ∧ m ≤ n ∧ ∀ k, k < m → ¬ P k := by
  intro n
  induction n using Nat.strongRecOn with
  | _ n ih =>
    intro p
    by_cases q : ∃ k, k < n ∧ P k
    · obtain ⟨k, lk, pk⟩ := q
      obtain ⟨m, h1, h2, h3⟩ := ih k lk pk
      exact ⟨m, h1, by omega, h3⟩
    · exact ⟨n, p, Nat.le_refl n, fun k lk pk => q ⟨k, lk, pk⟩⟩
theorem nodup_le {β : Type} : ∀ (l L : List β), l.Nodup → (∀ x ∈ l, x ∈ L) → l.length ≤ L.length
  | [], _, _, _ => Nat.zero_le _
  | x :: l, L, nd, s => by
    obtain ⟨h1, h2⟩ := List.nodup_cons.mp nd
    obtain ⟨L1, L2, e⟩ := List.append_of_mem (s x List.mem_cons_self)
    have r := nodup_le l (L1 ++ L2) h2 fun y m => by
      have z := s y (List.mem_cons_of_mem _ m)
      rw [e] at z
      rcases List.mem_append.mp z with z | z
      · exact List.mem_append_left _ z
      · rcases List.mem_cons.mp z with z | z
        · exact absurd (z ▸ m) h1
        · exact List.mem_append_right _ z
    rw [e]
    rw [List.length_append] at r
    rw [List.length_cons, List.length_append, List.length_cons]
    omega
theorem nodup_map {β : Type} (f : Nat → β) : ∀ n, (∀ i j, i < j → j < n → f i ≠ f j) → ((List.range n).map f).Nodup
  | 0, _ => List.nodup_nil
  | n + 1, q => by
    rw [List.range_succ, List.map_append]
    refine List.nodup_append.mpr ⟨nodup_map f n fun i j l1 l2 => q i j l1 (by omega), by simp, fun x m1 y m2 => ?_⟩
    obtain ⟨i, hi, e1⟩ := List.mem_map.mp m1
    have e2 : y = f n := by simpa using m2
    rw [← e1, e2]
    exact q i n (List.mem_range.mp hi) (Nat.lt_succ_self n)
/-- two of so many are one -/
theorem twice {β : Type} (f : Nat → β) (L : List β) (n : Nat) (hn : L.length < n) (hf : ∀ i, i < n → f i ∈ L) : ∃ i j, i < j ∧ j < n ∧ f i = f j := by
  by_cases q : ∃ i j, i < j ∧ j < n ∧ f i = f j
  · exact q
  · have nd := nodup_map f n fun i j l1 l2 e => q ⟨i, j, l1, l2, e⟩
    have r := nodup_le _ L nd fun x m => by
      obtain ⟨i, hi, e⟩ := List.mem_map.mp m
      rw [← e]
      exact hf i (List.mem_range.mp hi)
    rw [List.length_map, List.length_range] at r
    omega
/-- what stands behind the rounds, when the last of V rounds changed x -/
structure Back (T : List (T3 α)) (st : PS α) (V q : Nat) (x : α) : Prop where
  /-- V steps back are there -/
  go : ∀ k, k < V → ∃ e n, st.c (it T st k x) = some e ∧ T[e]? = some (it T st (k + 1) x, it T st k x, n)
  two : 2 ≤ q
  per : it T st q (it T st V x) = it T st V x
  no : ∀ m, 1 ≤ m → m < q → it T st m (it T st V x) ≠ it T st V x
  cyc : ∀ m, ∃ e n, st.c (it T st m (it T st V x)) = some e ∧ T[e]? = some (it T st (m + 1) (it T st V x), it T st m (it T st V x), n)
section
variable {j i : Nat} {st : PS α}
theorem PI.srcIs (I : PI T j i st) {v : α} (l : 1 ≤ st.s v) : ∃ e n, st.c v = some e ∧ T[e]? = some (srcOf T st v, v, n) ∧ st.w (srcOf T st v) + n ≤ st.w v ∧ (st.s v < st.s (srcOf T st v) → st.w (srcOf T st v) + n < st.w v) ∧ st.s v ≤ st.s (srcOf T st v) + T.length := by
  obtain ⟨e, he⟩ := I.has v l
  obtain ⟨a, n, q1, q2, q3, q4, q5⟩ := I.came v e he
  have es : srcOf T st v = a := by
    unfold srcOf
    rw [he]
    dsimp only
    rw [q1]
  rw [es]
  exact ⟨e, n, he, q1, q2, q3, q4⟩
theorem back_of {V : Nat} {L : List α} {x : α} (ne : ∀ a b n, (a, b, n) ∈ T → a ≠ b) (hL : ∀ a b n, (a, b, n) ∈ T → a ∈ L ∧ b ∈ L) (hV : L.length ≤ V) (h1 : 1 ≤ V) (I : PI T (V - 1) T.length st) (hx : st.mv = some x) : ∃ q, Back T st V q x := by
  have low : ∀ k, k < V → (V - 1 - k) * T.length + 1 ≤ st.s (it T st k x) := by
    intro k
    induction k with
    | zero =>
      intro _
      exact I.mv x hx
    | succ k ih =>
      intro lk
      have r := ih (by omega)
      obtain ⟨e, n, q1, q2, q3, q4, q5⟩ := I.srcIs (v := it T st k x) (Nat.le_trans (Nat.le_add_left 1 _) r)
      have e2 : V - 1 - k = (V - 1 - (k + 1)) + 1 := by omega
      rw [e2, Nat.succ_mul] at r
      show (V - 1 - (k + 1)) * T.length + 1 ≤ st.s (srcOf T st (it T st k x))
      omega
  have go : ∀ k, k < V → ∃ e n, st.c (it T st k x) = some e ∧ T[e]? = some (it T st (k + 1) x, it T st k x, n) := fun k lk => by
    obtain ⟨e, n, q1, q2, _⟩ := I.srcIs (v := it T st k x) (Nat.le_trans (Nat.le_add_left 1 _) (low k lk))
    exact ⟨e, n, q1, q2⟩
  have inL : ∀ k, k < V + 1 → it T st k x ∈ L := fun k lk => by
    by_cases z : k < V
    · obtain ⟨e, n, _, q2⟩ := go k z
      exact (hL _ _ _ (List.mem_of_getElem? q2)).2
    · obtain ⟨e, n, _, q2⟩ := go (k - 1) (by omega)
      rw [show k - 1 + 1 = k by omega] at q2
      exact (hL _ _ _ (List.mem_of_getElem? q2)).1
  obtain ⟨a, b, lab, lb, eab⟩ := twice (fun k => it T st k x) L (V + 1) (by omega) inL
  have wrap : ∀ m, a ≤ m → ∃ k, a ≤ k ∧ k < b ∧ it T st m x = it T st k x := by
    intro m
    induction m with
    | zero => exact fun l => ⟨0, l, by omega, rfl⟩
    | succ m ih =>
      intro l
      by_cases z : a = m + 1
      · exact ⟨m + 1, l, by omega, rfl⟩
      · obtain ⟨k, l1, l2, e⟩ := ih (by omega)
        have e2 : it T st (m + 1) x = it T st (k + 1) x := by
          show srcOf T st (it T st m x) = srcOf T st (it T st k x)
          rw [e]
        by_cases y : k + 1 = b
        · exact ⟨a, Nat.le_refl a, lab, by rw [e2, y, eab]⟩
        · exact ⟨k + 1, by omega, by omega, e2⟩
  have hq0 : it T st (b - a) (it T st V x) = it T st V x := by
    have e1 : it T st V x = it T st (V - a) (it T st a x) := by
      rw [← it_add, show a + (V - a) = V by omega]
    have e2 : it T st (b - a) (it T st V x) = it T st (V - a) (it T st b x) := by
      rw [← it_add, ← it_add, show V + (b - a) = b + (V - a) by omega]
    rw [e2, e1, eab]
  obtain ⟨q, ⟨hq1, hq2⟩, _, hq3⟩ := least_nat (P := fun m => 1 ≤ m ∧ it T st m (it T st V x) = it T st V x) (b - a) ⟨by omega, hq0⟩
  have cyc : ∀ m, ∃ e n, st.c (it T st m (it T st V x)) = some e ∧ T[e]? = some (it T st (m + 1) (it T st V x), it T st m (it T st V x), n) := fun m => by
    obtain ⟨k, l1, l2, e⟩ := wrap (V + m) (by omega)
    have e1 : it T st m (it T st V x) = it T st k x := by rw [← it_add, e]
    have e2 : it T st (m + 1) (it T st V x) = it T st (k + 1) x := by
      show srcOf T st (it T st m (it T st V x)) = srcOf T st (it T st k x)
      rw [e1]
    rw [e1, e2]
    exact go k (by omega)
  refine ⟨q, go, ?_, hq2, fun m l1 l2 e => hq3 m l2 ⟨l1, e⟩, cyc⟩
  by_cases z : q = 1
  · obtain ⟨e, n, _, q2⟩ := cyc 0
    rw [z] at hq2
    have := ne _ _ _ (List.mem_of_getElem? q2)
    exact absurd hq2 this
  · omega
/-- the numbers of the ring's ties, the last one first -/
def ringL (T : List (T3 α)) (st : PS α) (y : α) : Nat → List Nat
  | 0 => [cnOf st y]
  | m + 1 => cnOf st (it T st (m + 1) y) :: ringL T st y m
theorem ringL_len (y : α) : ∀ m, (ringL T st y m).length = m + 1
  | 0 => rfl
  | m + 1 => by
    show (ringL T st y m).length + 1 = m + 1 + 1
    rw [ringL_len y m]
theorem ringL_at (y : α) : ∀ m k, k ≤ m → (ringL T st y m)[k]? = some (cnOf st (it T st (m - k) y))
  | 0, k, l => by
    have e : k = 0 := by omega
    subst e
    rfl
  | m + 1, 0, _ => rfl
  | m + 1, k + 1, l => by
    show (ringL T st y m)[k]? = _
    rw [ringL_at y m k (by omega), show m + 1 - (k + 1) = m - k by omega]
def sumN (T : List (T3 α)) (l : List Nat) : Int := (l.map (nOf T)).sum
/-- a ring of ties, from anywhere in it -/
structure Ring0 (T : List (T3 α)) (l : List Nat) : Prop where
  two : 2 ≤ l.length
  nd : l.Nodup
  lt : ∀ k ∈ l, k < T.length
  adj : ∀ k e f, l[k]? = some e → l[(k + 1) % l.length]? = some f → ∃ a b c n m, T[e]? = some (a, b, n) ∧ T[f]? = some (b, c, m)
  sum : sumN T l < 0
theorem Back.per' {V q : Nat} {x : α} (B : Back T st V q x) (m : Nat) : it T st (q + m) (it T st V x) = it T st m (it T st V x) := by
  rw [it_add, B.per]
theorem Back.apart {V q : Nat} {x : α} (B : Back T st V q x) {a b : Nat} (l1 : a < b) (l2 : b < q) : it T st a (it T st V x) ≠ it T st b (it T st V x) := fun e => by
  have e1 : it T st (b + (q - b)) (it T st V x) = it T st V x := by
    rw [show b + (q - b) = q by omega]
    exact B.per
  have e2 : it T st (a + (q - b)) (it T st V x) = it T st V x := by
    rw [it_add, e, ← it_add]
    exact e1
  exact B.no _ (by omega) (by omega) e2
theorem Back.at_ {V q : Nat} {x : α} (B : Back T st V q x) (m : Nat) : ∃ n, T[cnOf st (it T st m (it T st V x))]? = some (it T st (m + 1) (it T st V x), it T st m (it T st V x), n) := by
  obtain ⟨e, n, q1, q2⟩ := B.cyc m
  refine ⟨n, ?_⟩
  unfold cnOf
  rw [q1]
  exact q2
theorem sum_le (g : α → Int) (y : α) (hg : ∀ m, ∃ e n, st.c (it T st m y) = some e ∧ T[e]? = some (it T st (m + 1) y, it T st m y, n) ∧ g (it T st (m + 1) y) + n ≤ g (it T st m y)) : ∀ m, sumN T (ringL T st y m) ≤ g y - g (it T st (m + 1) y)
  | 0 => by
    obtain ⟨e, n, q1, q2, q3⟩ := hg 0
    have e1 : cnOf st y = e := by
      unfold cnOf
      rw [show st.c y = some e from q1]
      rfl
    show nOf T (cnOf st y) + 0 ≤ _
    rw [e1]
    unfold nOf
    rw [q2]
    have q3' : g (it T st 1 y) + n ≤ g y := q3
    show n + 0 ≤ g y - g (it T st 1 y)
    omega
  | m + 1 => by
    obtain ⟨e, n, q1, q2, q3⟩ := hg (m + 1)
    have r := sum_le g y hg m
    have e1 : cnOf st (it T st (m + 1) y) = e := by
      unfold cnOf
      rw [q1]
      rfl
    show nOf T (cnOf st (it T st (m + 1) y)) + sumN T (ringL T st y m) ≤ _
    rw [e1]
    unfold nOf
    rw [q2]
    show n + _ ≤ _
    omega
/-- once strictly: the whole strictly -/
theorem sum_lt (g : α → Int) (y : α) (hg : ∀ m, ∃ e n, st.c (it T st m y) = some e ∧ T[e]? = some (it T st (m + 1) y, it T st m y, n) ∧ g (it T st (m + 1) y) + n ≤ g (it T st m y) ∧ (st.s (it T st m y) < st.s (it T st (m + 1) y) → g (it T st (m + 1) y) + n < g (it T st m y))) :
    ∀ m, sumN T (ringL T st y m) < g y - g (it T st (m + 1) y) ∨ st.s (it T st (m + 1) y) ≤ st.s y ∧ (∀ k, k ≤ m → st.s (it T st (k + 1) y) ≤ st.s (it T st k y)) := by
  have hg2 : ∀ m, ∃ e n, st.c (it T st m y) = some e ∧ T[e]? = some (it T st (m + 1) y, it T st m y, n) ∧ g (it T st (m + 1) y) + n ≤ g (it T st m y) := fun m => by
    obtain ⟨e, n, q1, q2, q3, _⟩ := hg m
    exact ⟨e, n, q1, q2, q3⟩
  intro m
  induction m with
  | zero =>
    obtain ⟨e, n, q1, q2, q3, q4⟩ := hg 0
    by_cases z : st.s (it T st 0 y) < st.s (it T st (0 + 1) y)
    · left
      have e1 : cnOf st y = e := by
        unfold cnOf
        rw [show st.c y = some e from q1]
        rfl
      show nOf T (cnOf st y) + 0 < _
      rw [e1]
      unfold nOf
      rw [q2]
      have q5 : g (it T st 1 y) + n < g y := q4 z
      show n + 0 < g y - g (it T st 1 y)
      omega
    · right
      have z2 : st.s (it T st (0 + 1) y) ≤ st.s (it T st 0 y) := by omega
      refine ⟨z2, fun k hk => ?_⟩
      have e : k = 0 := by omega
      subst e
      exact z2
  | succ m ih =>
    obtain ⟨e, n, q1, q2, q3, q4⟩ := hg (m + 1)
    have e1 : cnOf st (it T st (m + 1) y) = e := by
      unfold cnOf
      rw [q1]
      rfl
    have es : sumN T (ringL T st y (m + 1)) = n + sumN T (ringL T st y m) := by
      show nOf T (cnOf st (it T st (m + 1) y)) + sumN T (ringL T st y m) = _
      rw [e1]
      unfold nOf
      rw [q2]
    rcases ih with ih | ⟨i1, i2⟩
    · left
      rw [es]
      omega
    · by_cases z : st.s (it T st (m + 1) y) < st.s (it T st (m + 1 + 1) y)
      · left
        have r := sum_le g y hg2 m
        have q5 := q4 z
        rw [es]
        omega
      · right
        refine ⟨by omega, fun k hk => ?_⟩
        by_cases y2 : k ≤ m
        · exact i2 k y2
        · have e : k = m + 1 := by omega
          subst e
          omega
theorem PI.cyc_w (I : PI T j i st) {V q : Nat} {x : α} (B : Back T st V q x) (m : Nat) : ∃ e n, st.c (it T st m (it T st V x)) = some e ∧ T[e]? = some (it T st (m + 1) (it T st V x), it T st m (it T st V x), n) ∧ st.w (it T st (m + 1) (it T st V x)) + n ≤ st.w (it T st m (it T st V x)) ∧ (st.s (it T st m (it T st V x)) < st.s (it T st (m + 1) (it T st V x)) → st.w (it T st (m + 1) (it T st V x)) + n < st.w (it T st m (it T st V x))) := by
  obtain ⟨e, n, q1, q2⟩ := B.cyc m
  obtain ⟨a, n', q3, q4, q5, q6, q7⟩ := I.came _ e q1
  rw [q2] at q3
  have e3 := Option.some.inj q3
  injection e3 with e4 e5
  injection e5 with e6 e7
  subst e7
  rw [← e4] at q4 q5
  exact ⟨e, n, q1, q2, q4, q5⟩
theorem ring_neg (I : PI T j i st) {V q : Nat} {x : α} (ne : ∀ a b n, (a, b, n) ∈ T → a ≠ b) (B : Back T st V q x) : sumN T (ringL T st (it T st V x) (q - 1)) < 0 := by
  have hq := B.two
  have e : it T st (q - 1 + 1) (it T st V x) = it T st V x := by
    rw [show q - 1 + 1 = q by omega]
    exact B.per
  rcases sum_lt st.w (it T st V x) (I.cyc_w B) (q - 1) with r | ⟨_, r⟩
  · rw [e] at r
    omega
  · -- the times never grow round the ring: they are all one, and so are the names
    exfalso
    have down : ∀ m, m ≤ q → st.s (it T st m (it T st V x)) ≤ st.s (it T st 1 (it T st V x)) ∨ m = 0 := by
      intro m
      induction m with
      | zero => exact fun _ => .inr rfl
      | succ m ih =>
        intro l
        by_cases z : m = 0
        · subst z
          exact .inl (Nat.le_refl _)
        · rcases ih (by omega) with y | y
          · exact .inl (Nat.le_trans (r m (by omega)) y)
          · exact absurd y z
    have d1 := r 0 (by omega)
    have d1' : st.s (it T st 1 (it T st V x)) ≤ st.s (it T st V x) := d1
    rcases down q (Nat.le_refl q) with d2 | d2
    · rw [B.per] at d2
      have es : st.s (it T st V x) = st.s (it T st 1 (it T st V x)) := by omega
      obtain ⟨e0, n0, q1, q2⟩ := B.cyc 0
      obtain ⟨_, _, _, _, _, _, q7⟩ := I.came _ e0 q1
      have q7' : 1 ≤ st.s (it T st V x) := q7
      rcases I.inj _ _ es with z | z
      · omega
      · exact B.no 1 (Nat.le_refl 1) (by omega) z.symm
    · omega
theorem sum_ge (F : Feas T h) (y : α) (hg : ∀ m, ∃ e n, st.c (it T st m y) = some e ∧ T[e]? = some (it T st (m + 1) y, it T st m y, n)) : ∀ m, h y - h (it T st (m + 1) y) ≤ sumN T (ringL T st y m)
  | 0 => by
    obtain ⟨e, n, q1, q2⟩ := hg 0
    have f := F _ _ _ (List.mem_of_getElem? q2)
    have e1 : cnOf st y = e := by
      unfold cnOf
      rw [show st.c y = some e from q1]
      rfl
    show _ ≤ nOf T (cnOf st y) + 0
    rw [e1]
    unfold nOf
    rw [q2]
    have f' : h y ≤ h (it T st 1 y) + n := f
    show h y - h (it T st 1 y) ≤ n + 0
    omega
  | m + 1 => by
    obtain ⟨e, n, q1, q2⟩ := hg (m + 1)
    have f := F _ _ _ (List.mem_of_getElem? q2)
    have r := sum_ge F y hg m
    have e1 : cnOf st (it T st (m + 1) y) = e := by
      unfold cnOf
      rw [q1]
      rfl
    show _ ≤ nOf T (cnOf st (it T st (m + 1) y)) + sumN T (ringL T st y m)
    rw [e1]
    unfold nOf
    rw [q2]
    show _ ≤ n + _
    omega
theorem ring_none (I : PI T j i st) (ne : ∀ a b n, (a, b, n) ∈ T → a ≠ b) {V q : Nat} {x : α} (B : Back T st V q x) : ¬ Feas T h := fun F => by
  have hq := B.two
  have e : it T st (q - 1 + 1) (it T st V x) = it T st V x := by
    rw [show q - 1 + 1 = q by omega]
    exact B.per
  have r := sum_ge F (it T st V x) B.cyc (q - 1)
  rw [e] at r
  have := ring_neg I ne B
  omega
theorem ring0 (I : PI T j i st) (ne : ∀ a b n, (a, b, n) ∈ T → a ≠ b) {V q : Nat} {x : α} (B : Back T st V q x) : Ring0 T (ringL T st (it T st V x) (q - 1)) := by
  have hq := B.two
  have hl : (ringL T st (it T st V x) (q - 1)).length = q := by
    rw [ringL_len]
    omega
  have at_ : ∀ k, k < q → (ringL T st (it T st V x) (q - 1))[k]? = some (cnOf st (it T st (q - 1 - k) (it T st V x))) := fun k lk => ringL_at _ _ _ (by omega)
  refine ⟨by rw [hl]; exact hq, ?_, fun k m => ?_, fun k e f he hf => ?_, ring_neg I ne B⟩
  · have e1 : ringL T st (it T st V x) (q - 1) = (List.range q).map fun k => cnOf st (it T st (q - 1 - k) (it T st V x)) := by
      refine List.ext_getElem? fun k => ?_
      by_cases z : k < q
      · rw [at_ k z, List.getElem?_map, List.getElem?_range z]
        rfl
      · rw [List.getElem?_eq_none (by omega), List.getElem?_eq_none (by rw [List.length_map, List.length_range]; omega)]
    rw [e1]
    refine nodup_map _ q fun a b l1 l2 e => ?_
    obtain ⟨n1, q1⟩ := B.at_ (q - 1 - a)
    obtain ⟨n2, q2⟩ := B.at_ (q - 1 - b)
    rw [e, q2] at q1
    have e3 := Option.some.inj q1
    injection e3 with e4 e5
    injection e5 with e6 e7
    exact B.apart (show q - 1 - b < q - 1 - a by omega) (by omega) e6
  · obtain ⟨i, hi⟩ := List.getElem?_of_mem m
    have hi2 : i < q := by
      have := (List.getElem?_eq_some_iff.mp hi).1
      omega
    rw [at_ i hi2] at hi
    obtain ⟨n, q1⟩ := B.at_ (q - 1 - i)
    rw [Option.some.inj hi] at q1
    exact (List.getElem?_eq_some_iff.mp q1).1
  · rw [hl] at hf
    have hk : k < q := by
      have := (List.getElem?_eq_some_iff.mp he).1
      omega
    rw [at_ k hk] at he
    obtain ⟨n, q1⟩ := B.at_ (q - 1 - k)
    rw [Option.some.inj he] at q1
    by_cases z : k + 1 = q
    · rw [z, Nat.mod_self, at_ 0 (by omega)] at hf
      obtain ⟨n2, q2⟩ := B.at_ (q - 1 - 0)
      rw [Option.some.inj hf] at q2
      have e1 : it T st (q - 1 - 0 + 1) (it T st V x) = it T st (q - 1 - k) (it T st V x) := by
        rw [show q - 1 - 0 + 1 = q by omega, show q - 1 - k = 0 by omega]
        exact B.per
      rw [e1] at q2
      exact ⟨_, _, _, n, n2, q1, q2⟩
    · rw [Nat.mod_eq_of_lt (by omega), at_ (k + 1) (by omega)] at hf
      obtain ⟨n2, q2⟩ := B.at_ (q - 1 - (k + 1))
      rw [Option.some.inj hf, show q - 1 - (k + 1) + 1 = q - 1 - k by omega] at q2
      exact ⟨_, _, _, n, n2, q1, q2⟩
theorem sumN_app (l1 l2 : List Nat) : sumN T (l1 ++ l2) = sumN T l1 + sumN T l2 := by
  unfold sumN
  rw [List.map_append, List.sum_append]
theorem turn_at (l : List Nat) {s k : Nat} (hs : s < l.length) (hk : k < l.length) : (l.drop s ++ l.take s)[k]? = l[(k + s) % l.length]? := by
  by_cases z : k < l.length - s
  · rw [List.getElem?_append_left (by rw [List.length_drop]; exact z), List.getElem?_drop, Nat.mod_eq_of_lt (by omega), Nat.add_comm]
  · rw [List.getElem?_append_right (by rw [List.length_drop]; omega), List.length_drop, List.getElem?_take_of_lt (by omega)]
    congr 1
    rw [show k + s = (k - (l.length - s)) + l.length by omega, Nat.add_mod_right, Nat.mod_eq_of_lt (by omega)]
theorem Ring0.turn {l : List Nat} (R : Ring0 T l) {s : Nat} (hs : s < l.length) : Ring0 T (l.drop s ++ l.take s) := by
  have hl : (l.drop s ++ l.take s).length = l.length := by
    rw [List.length_append, List.length_drop, List.length_take]
    omega
  have e : l.take s ++ l.drop s = l := List.take_append_drop s l
  refine ⟨by rw [hl]; exact R.two, ?_, fun k m => R.lt k ?_, fun k a b ha hb => ?_, ?_⟩
  · have nd := R.nd
    rw [← e] at nd
    obtain ⟨n1, n2, n3⟩ := List.nodup_append.mp nd
    exact List.nodup_append.mpr ⟨n2, n1, fun x hx y hy => (n3 y hy x hx).symm⟩
  · rw [← e]
    rcases List.mem_append.mp m with m | m
    · exact List.mem_append_right _ m
    · exact List.mem_append_left _ m
  · have hk : k < l.length := by
      have := (List.getElem?_eq_some_iff.mp ha).1
      omega
    have h2 := R.two
    rw [hl] at hb
    rw [turn_at l hs hk] at ha
    rw [turn_at l hs (Nat.mod_lt _ (by omega))] at hb
    refine R.adj ((k + s) % l.length) a b ha ?_
    rw [← hb]
    congr 1
    rw [Nat.mod_add_mod, Nat.mod_add_mod]
    congr 1
    omega
  · rw [sumN_app, Int.add_comm, ← sumN_app, e]
    exact R.sum
end
end
end WM
/-! enumerate of a tuple, zip of a tuple and a list -/
namespace Wr
open PySem PySem.Spec PyProof.Rows L2

theorem enum_one_meets {v : Value} {o : Obj} {Z : Heap → Prop} (B : Begins v o Z) :
    Meets (Builtin.«enumerate.__new__» ⟨[.type "enumerate", v], []⟩) (fun _ R s => Z s.heap ∧
      R (.ok (.ret (.ref (s.heap.push o).objs.size))) { s with heap := (s.heap.push o).push { cls := .type "enumerate", data := .fields #[.none, .bool false, .ref s.heap.objs.size, rawInt 0, .none, .none] } }) :=
  .of_wp fun prog w A R s h => by
    obtain ⟨hp, g, d, tk, os⟩ := s
    obtain ⟨hz, hr⟩ := h
    have hsub := sub_enumerate
    have go : ∀ {A' : Around} {E : Value → Shared → Prop} {Q : Value → Shared → Prop}, Q (.ref hp.objs.size) ⟨hp.push o, g, d, tk, os⟩ → wpAny (model prog w) A' (pyIter v) Q E ⟨hp, g, d, tk, os⟩ :=
      fun q => B.iter prog w _ _ ⟨hp, g, d, tk, os⟩ _ hz q
    wp_walk using go
    refine wpAny_stack_any fun st => wpAny_pure ?_
    split
    · rename_i c _ _ _ _ _
      cases (c == Value.type "enumerate") <;> (wp_walk using go; exact ⟨_, rfl, hr⟩)
    · wp_walk using go
      exact ⟨_, rfl, hr⟩
theorem enum_one {prog : Program} {w : World} {A : Around} {E : Value → Shared → Prop} {s : Shared} {v : Value} {o : Obj} {Z : Heap → Prop} {Q : Value → Shared → Prop} (B : Begins v o Z) (hz : Z s.heap)
    (h : ∀ h', IsEnum h' (s.heap.objs.size + 1) s.heap.objs.size 0 .none → h'.get? s.heap.objs.size = some o → (∀ b o, s.heap.get? b = some o → h'.get? b = some o) → Q (.ref (s.heap.objs.size + 1)) { s with heap := h' }) :
    wpAny (model prog w) A (call (.type "enumerate") [v]) Q E s := by
  refine callType_new F.called_enumerate (by decide) (F.typeCall_enumerate_1 _) (F.newCall_enumerate_1 _) (fun obj => F.args_object_init_2 obj _) F.entry_enumerate_new (enum_one_meets B) ⟨hz, ?_⟩
  have z1 : (s.heap.push o).objs.size = s.heap.objs.size + 1 := Heap.size_push ..
  have new := Heap.get?_push_size (s.heap.push o) (o := { cls := .type "enumerate", data := .fields #[.none, .bool false, .ref s.heap.objs.size, rawInt 0, .none, .none] }) rfl
  rw [z1] at new ⊢
  exact ⟨⟨_, new, rfl⟩, h _ new (Heap.get?_push_of_some _ (Heap.get?_push_size _ B.free)) fun b u q => Heap.get?_push_of_some _ (Heap.get?_push_of_some _ q)⟩

/-- the tuple at a, each item in a new pair -/
def IteT (K : PySem.W.Frag) (a : Addr) : It :=
  ⟨fun i H => ∃ (xs : List V) (x : V), SqT K H a xs ∧ xs[i]? = some x, fun i H v H' => ∃ T x, v = .ref T ∧ H T = none ∧ H' = upd H T (.tup [.int (i : Nat), x]) ∧ ∀ xs, SqT K H a xs → xs[i]? = some x, fun i H => ∃ xs : List V, SqT K H a xs ∧ xs.length = i⟩
section
variable {P : Program} {w : World} {K : PySem.W.Frag} {elts : List Expr} {kk : Nat} {tpos : Pos} {a e it : Addr}
theorem turn_enumT (hei : e ≠ it) (hae : a ≠ e) (hai : a ≠ it) : Turn P w K (.Tuple elts kk tpos) (IteT K a) [e, it] e (fun i h => (∃ old, IsEnum h e it (0 + ((i : Nat) : Int)) old) ∧ h.IsTupleIter it a i) where
  mem := by simp
  obj := fun i h st b hb => by
    obtain ⟨⟨old, he⟩, ⟨o, ho, hc, hd⟩⟩ := st
    rcases (show b = e ∨ b = it by simpa using hb) with z | z
    · rw [z]
      exact ⟨_, he, fun v q => nomatch q⟩
    · rw [z]
      exact ⟨o, ho, fun v q => by
        rw [hd] at q
        cases q⟩
  keep := fun i h h' st k => ⟨st.1.elim fun old he => ⟨old, k e (by simp) _ he⟩, st.2.at fun o q => k it (by simp) o q⟩
  item := by
    intro X hP hw hK hc i pins s σ H E I hf st hg
    subst hP hw hK
    obtain ⟨xs, x, hq, hx⟩ := hg
    obtain ⟨its, rv, p, hz⟩ := I.tuple hq
    obtain ⟨u, hu, ru⟩ := rv.get hx
    have W := WalksT.enumFrom (prog := X.prog) (w := X.w) (A := X.A) 0 (Draws.tuple (A := X.A.in1) (by simp [I.ok.hd hc]) it a hai its.toArray) e hei (by simp [hei, Ne.symm hae]) (by simp)
    have hi : i < its.toArray.size := by simpa using (List.getElem?_eq_some_iff.mp hu).1
    refine W.item i s _ _ hi ⟨st.1, st.2, p⟩ fun T vals h' tk hv hle hT hm hk => ⟨.ref T, rfl, W.go elts kk tpos i T { s with heap := h', toks := tk } _ _ hm fun h2 st2 hk2 => ?_⟩
    obtain ⟨t, y, hy, ev⟩ := hv
    have ey : y = u := by
      have q : its.toArray[i]? = some u := by simpa using hu
      rw [q] at hy
      exact (Option.some.inj hy).symm
    subst ey
    have hT2 : h2.IsTuple T #[.int (0 + (i : Int)) t, y] := ev ▸ hT.at fun o q => hk2 T o (W.apart i T h' hm) q
    have new : ObjOk X.prog X.w (upd H T (.tup [.int (i : Nat), x])) h2 T (.tup [.int (i : Nat), x]) :=
      ⟨by show 2 ≤ sizeLine; decide, [.int (0 + (i : Int)) t, y], .cons ⟨t, by rw [Int.zero_add]⟩ (.cons ru .nil), hT2⟩
    have I1 := I.turnedNew (t' := tk) (ch := [e, it]) (fun b ob hb q => hk2 b ob hb (hk b ob hb q)) hf hle new
    refine ⟨.ref T, _, I1, rfl, ⟨T, x, rfl, I.hok.fresh hle, rfl, fun ys hy => by rw [I.tuple_inj hy hq]; exact hx⟩, ⟨st2.1, st2.2.1⟩, fun b hb => ?_⟩
    have hb2 : b < s.heap.objs.size := by
      obtain ⟨⟨old, he⟩, ⟨o, ho, _⟩⟩ := st
      rcases (show b = e ∨ b = it by simpa using hb) with z | z
      · rw [z]
        exact Heap.lt_size he
      · rw [z]
        exact Heap.lt_size ho
    rw [upd_ne (Nat.ne_of_lt (Nat.lt_of_lt_of_le hb2 hle))]
    exact (hf b hb).1
  done := by
    intro X hP hw hK hc i pins s σ H E I hf st hg
    subst hP hw hK
    obtain ⟨xs, hq, hx⟩ := hg
    obtain ⟨its, rv, p, hz⟩ := I.tuple hq
    have W := WalksT.enumFrom (prog := X.prog) (w := X.w) (A := X.A) 0 (Draws.tuple (A := X.A.in1) (by simp [I.ok.hd hc]) it a hai its.toArray) e hei (by simp [hei, Ne.symm hae]) (by simp)
    have hl : its.toArray.size = i := by
      rw [List.size_toArray, ← rv.length]
      exact hx
    refine W.done s _ _ (by rw [hl]; exact ⟨st.1, st.2, p⟩) fun h' tk hk => ⟨rfl, I.turnedL (t' := tk) (ch := [e, it]) hk hf⟩
  self := fun A i s Q E st h => st.1.elim fun _ he => wpAny_pyIter_enum he h
end
def iEnumT (K : PySem.W.Frag) (ta : TA) : TI := fun σ H R => ta σ H fun vs H1 => ∃ a xs, vs = [.ref a] ∧ SqT K H1 a xs ∧ R (IteT K a) H1
theorem pi_enumT {X : Cx} {e : Expr} {ta : TA} {p pos tpos : Pos} {elts : List Expr} {kk : Nat} (hg : Gl X "enumerate") (hm : X.mg "enumerate" = none) (ha : PA X [e] ta) (hs : starEach [e] X.env = [(false, eval e X.env)] := by rfl) :
    PI X (.Tuple elts kk tpos) (.Call (.Name "enumerate" p) [e] [] pos) (iEnumT X.K ta) := by
  refine ⟨fun pins s σ H R I h => Call_ (ld_blt I hg hm boot_enumerate (PyProof.Rows.callWith_type1 (thn (ha.run pos pins s σ H _ I h) fun us s1 ⟨vs, H1, I1, r1, q1⟩ => ?_) hs rfl))⟩
  obtain ⟨a, xs, ex, hq, q⟩ := q1
  subst ex
  obtain ⟨u, rfl, ru⟩ := vals1 r1
  cases ru
  obtain ⟨its, rv, p', hz⟩ := I1.tuple hq
  have ha : a < s1.heap.objs.size := p'.lt
  refine enum_one (begins_tuple a its.toArray) p' fun h' he hi hk => wpAny_pyIter_enum he ?_
  have I2 : Inv X pins σ H1 { s1 with heap := h' } := I1.kept (t' := s1.toks) hk
  refine ⟨s1.heap.objs.size + 1, [s1.heap.objs.size + 1, s1.heap.objs.size], _, _, H1, rfl, I2, turn_enumT (a := a) (Nat.succ_ne_self _) (Nat.ne_of_lt (Nat.lt_succ_of_lt ha)) (Nat.ne_of_lt ha), ⟨⟨.none, he⟩, ⟨_, hi, rfl, rfl⟩⟩, fun b hb => ?_, q⟩
  have hle : s1.heap.objs.size ≤ b := by
    rcases (show b = s1.heap.objs.size + 1 ∨ b = s1.heap.objs.size by simpa using hb) with z | z
    · rw [z]
      exact Nat.le_succ _
    · rw [z]
      exact Nat.le_refl _
  exact I1.fpOk hle (I1.hok.fresh hle)

/-- a tuple at a and a list at b, the items in new pairs -/
def Itz2 (K : PySem.W.Frag) (a b : Addr) : It :=
  ⟨fun i H => ∃ (xs ys : List V) (x y : V), SqT K H a xs ∧ SqL K H b ys ∧ xs[i]? = some x ∧ ys[i]? = some y,
    fun i H v H' => ∃ T x y, v = .ref T ∧ H T = none ∧ H' = upd H T (.tup [x, y]) ∧ (∀ xs, SqT K H a xs → xs[i]? = some x) ∧ ∀ ys, SqL K H b ys → ys[i]? = some y,
    fun i H => ∃ xs ys : List V, SqT K H a xs ∧ SqL K H b ys ∧ xs.length = i ∧ ys.length = i⟩
section
variable {P : Program} {w : World} {K : PySem.W.Frag} {elts : List Expr} {kk : Nat} {tpos : Pos} {a b : Addr} {N : Nat}
theorem turn_zip2 (la : a < N) (lb : b < N) : Turn P w K (.Tuple elts kk tpos) (Itz2 K a b) [N + 4, N + 2, N + 3, N, N + 1] (N + 4) (fun i h => IsZip h (N + 4) (N + 2) (N + 3) .none ∧ IsTupOf2 h (N + 2) (.ref N) (.ref (N + 1)) ∧ (∃ x y, IsTupOf2 h (N + 3) x y) ∧ h.IsTupleIter N a i ∧ h.IsListIter (N + 1) b i) where
  mem := by simp
  obj := fun i h st c hc => by
    obtain ⟨hz, hTI, ⟨x, y, hTO⟩, ⟨o1, e1, _, d1⟩, ⟨o2, e2, _, d2⟩⟩ := st
    rcases (show c = N + 4 ∨ c = N + 2 ∨ c = N + 3 ∨ c = N ∨ c = N + 1 by simpa using hc) with q | q | q | q | q
    · rw [q]
      exact ⟨_, hz, fun v q => nomatch q⟩
    · rw [q]
      exact ⟨_, hTI, fun v q => nomatch q⟩
    · rw [q]
      exact ⟨_, hTO, fun v q => nomatch q⟩
    · rw [q]
      exact ⟨o1, e1, fun v q => by
        rw [d1] at q
        cases q⟩
    · rw [q]
      exact ⟨o2, e2, fun v q => by
        rw [d2] at q
        cases q⟩
  keep := fun i h h' st k => by
    obtain ⟨hz, hTI, ⟨x, y, hTO⟩, h1, h2⟩ := st
    exact ⟨k _ (by simp) _ hz, k _ (by simp) _ hTI, ⟨x, y, k _ (by simp) _ hTO⟩, h1.at fun o q => k N (by simp) o q, h2.at fun o q => k _ (by simp) o q⟩
  item := by
    intro X hP hw hK hc i pins s σ H E I hf st hg
    subst hP hw hK
    obtain ⟨hz, hTI, hTO, h1, h2⟩ := st
    obtain ⟨xs, ys, x, y, hqx, hqy, hx, hy⟩ := hg
    obtain ⟨its, rv, p, _⟩ := I.tuple hqx
    obtain ⟨its2, rv2, p2, _⟩ := I.list hqy
    obtain ⟨u, hu, ru⟩ := rv.get hx
    obtain ⟨u2, hu2, ru2⟩ := rv2.get hy
    have hh : X.A.handled = none := I.ok.hd hc
    have W := WalksT.zipD2 (A := X.A) (zip_sep2 (N := N) (fp1 := [a]) (fp2 := [b]) (by simpa using la) (by simpa using lb))
      (Draws.tuple (prog := X.prog) (w := X.w) (A := X.A.in1) (by simp [hh]) N a (Nat.ne_of_lt la) its.toArray) (Draws.list (prog := X.prog) (w := X.w) (A := X.A.in1) (by simp [hh]) (N + 1) b (Nat.ne_of_lt (Nat.lt_succ_of_lt lb)) its2.toArray)
    have hi1 : i < its.toArray.size := by simpa using (List.getElem?_eq_some_iff.mp hu).1
    have hi2 : i < its2.toArray.size := by simpa using (List.getElem?_eq_some_iff.mp hu2).1
    refine W.item i s _ _ (by omega) ⟨hz, hTI, hTO, ⟨h1, p⟩, ⟨h2, p2.isList⟩⟩ fun T vals h' tk hv hle hT hm hk => ⟨.ref T, rfl, W.go elts kk tpos i T { s with heap := h', toks := tk } _ _ hm fun h3 st2 hk2 => ?_⟩
    obtain ⟨v1, v2, q1, q2, ev⟩ := hv
    have e1 : v1 = u := by
      have q : its.toArray[i]? = some u := by simpa using hu
      rw [q] at q1
      exact (Option.some.inj q1).symm
    have e2 : v2 = u2 := by
      have q : its2.toArray[i]? = some u2 := by simpa using hu2
      rw [q] at q2
      exact (Option.some.inj q2).symm
    subst e1 e2
    have hT2 : h3.IsTuple T #[v1, v2] := ev ▸ hT.at fun o q => hk2 T o (W.apart i T h' hm) q
    have new : ObjOk X.prog X.w (upd H T (.tup [x, y])) h3 T (.tup [x, y]) := ⟨by show 2 ≤ sizeLine; decide, [v1, v2], .cons ru (.cons ru2 .nil), hT2⟩
    have I1 := I.turnedNew (t' := tk) (ch := [N + 4, N + 2, N + 3, N, N + 1]) (fun c ob hb q => by
      have nb : c ∉ [N + 4, N + 3, N, N + 1] := fun z => hb (by
        rcases (show c = N + 4 ∨ c = N + 3 ∨ c = N ∨ c = N + 1 by simpa using z) with q | q | q | q <;> simp [q])
      exact hk2 c ob nb (hk c ob nb q)) hf hle new
    refine ⟨.ref T, _, I1, rfl, ⟨T, x, y, rfl, I.hok.fresh hle, rfl, fun l hl => by rw [I.tuple_inj hl hqx]; exact hx, fun l hl => by rw [I.list_inj hl hqy]; exact hy⟩, ⟨st2.1, st2.2.1, st2.2.2.1, st2.2.2.2.1.1, st2.2.2.2.2.1⟩, fun c hcm => ?_⟩
    have hlt : c < s.heap.objs.size := by
      obtain ⟨x0, y0, hTO⟩ := hTO
      rcases (show c = N + 4 ∨ c = N + 2 ∨ c = N + 3 ∨ c = N ∨ c = N + 1 by simpa using hcm) with q | q | q | q | q
      · rw [q]
        exact Heap.lt_size hz
      · rw [q]
        exact Heap.lt_size hTI
      · rw [q]
        exact Heap.lt_size hTO
      · rw [q]
        obtain ⟨_, e1, _⟩ := h1
        exact Heap.lt_size e1
      · rw [q]
        obtain ⟨_, e2, _⟩ := h2
        exact Heap.lt_size e2
    rw [upd_ne (Nat.ne_of_lt (Nat.lt_of_lt_of_le hlt hle))]
    exact (hf c hcm).1
  done := by
    intro X hP hw hK hc i pins s σ H E I hf st hg
    subst hP hw hK
    obtain ⟨hz, hTI, hTO, h1, h2⟩ := st
    obtain ⟨xs, ys, hqx, hqy, l1, l2⟩ := hg
    obtain ⟨its, rv, p, _⟩ := I.tuple hqx
    obtain ⟨its2, rv2, p2, _⟩ := I.list hqy
    have hh : X.A.handled = none := I.ok.hd hc
    have W := WalksT.zipD2 (A := X.A) (zip_sep2 (N := N) (fp1 := [a]) (fp2 := [b]) (by simpa using la) (by simpa using lb))
      (Draws.tuple (prog := X.prog) (w := X.w) (A := X.A.in1) (by simp [hh]) N a (Nat.ne_of_lt la) its.toArray) (Draws.list (prog := X.prog) (w := X.w) (A := X.A.in1) (by simp [hh]) (N + 1) b (Nat.ne_of_lt (Nat.lt_succ_of_lt lb)) its2.toArray)
    have z1 : its.toArray.size = i := by
      rw [List.size_toArray, ← rv.length]
      exact l1
    have z2 : its2.toArray.size = i := by
      rw [List.size_toArray, ← rv2.length]
      exact l2
    have z3 : min its.toArray.size its2.toArray.size = i := by omega
    refine W.done s _ _ (by rw [z3]; exact ⟨hz, hTI, hTO, ⟨h1, p⟩, ⟨h2, p2.isList⟩⟩) fun h' tk hk => ⟨rfl, I.turnedL (t' := tk) (ch := [N + 4, N + 2, N + 3, N, N + 1]) (fun c ob hb q => hk c ob (fun z => hb (by
        rcases (show c = N + 4 ∨ c = N + 3 ∨ c = N ∨ c = N + 1 by simpa using z) with q | q | q | q <;> simp [q])) q) hf⟩
  self := fun A i s Q E st h => wpAny_pyIter_zip st.1 h
end
def iZip2 (K : PySem.W.Frag) (ta : TA) : TI := fun σ H R => ta σ H fun vs H1 => ∃ a b xs ys, vs = [.ref a, .ref b] ∧ SqT K H1 a xs ∧ SqL K H1 b ys ∧ R (Itz2 K a b) H1
theorem pi_zip2 {X : Cx} {e e2 : Expr} {ta : TA} {p pos tpos : Pos} {elts : List Expr} {kk : Nat} (hg : Gl X "zip") (hm : X.mg "zip" = none) (ha : PA X [e, e2] ta)
    (hs : starEach [e, e2] X.env = (false, eval e X.env) :: starEach [e2] X.env := by rfl) (hpl : (backTo pos (starEach [e2] X.env)).any (·.1) = false := by rfl) :
    PI X (.Tuple elts kk tpos) (.Call (.Name "zip" p) [e, e2] [] pos) (iZip2 X.K ta) := by
  refine ⟨fun pins s σ H R I h => Call_ (ld_blt I hg hm PyProof.Rows.boot_zip (PyProof.Rows.callWith_type1 (thn (ha.run pos pins s σ H _ I h) fun us s1 ⟨vs, H1, I1, r1, q1⟩ => ?_) hs hpl))⟩
  obtain ⟨a, b, xs, ys, ex, hqx, hqy, q⟩ := q1
  subst ex
  cases r1 with
  | cons r rr =>
    obtain ⟨u2, rfl, r2⟩ := vals1 rr
    cases r
    cases r2
    obtain ⟨its, rv, p1, _⟩ := I1.tuple hqx
    obtain ⟨its2, rv2, p2, _⟩ := I1.list hqy
    have la : a < s1.heap.objs.size := p1.lt
    have lb : b < s1.heap.objs.size := p2.lt
    refine zip_begins2 (begins_tuple a its.toArray) (begins_list b its2.toArray) p1 p2.isList fun h' hz hTI hTO h1 h2 hsz hk => wpAny_pyIter_zip hz ?_
    have I2 : Inv X pins σ H1 { s1 with heap := h' } := I1.kept (t' := s1.toks) hk
    refine ⟨s1.heap.objs.size + 4, [s1.heap.objs.size + 4, s1.heap.objs.size + 2, s1.heap.objs.size + 3, s1.heap.objs.size, s1.heap.objs.size + 1], _, _, H1, rfl, I2, turn_zip2 la lb, ⟨hz, hTI, ⟨_, _, hTO⟩, ⟨_, h1, rfl, rfl⟩, ⟨_, h2, rfl, rfl⟩⟩, fun c hcm => ?_, q⟩
    have hle : s1.heap.objs.size ≤ c := by
      rcases (show c = s1.heap.objs.size + 4 ∨ c = s1.heap.objs.size + 2 ∨ c = s1.heap.objs.size + 3 ∨ c = s1.heap.objs.size ∨ c = s1.heap.objs.size + 1 by simpa using hcm) with z | z | z | z | z <;> rw [z] <;> first | exact Nat.le_refl _ | exact Nat.le_add_right _ _
    exact I1.fpOk hle (I1.hok.fresh hle)
end Wr
/-! instances whose __iter__ hands out iter of a tuple of theirs: walked, made a list -/
namespace Wr
open PySem PySem.Spec PyProof.Rows L2

/-- a promise that knows the heap's size at the call -/
structure FnN (P : Program) (w : World) (K : PySem.W.Frag) (mg : Str → Option Value) (base : Heap) (CX : CXT) (k : Nat) (f : Addr) (fd : FuncData) (ps : List Str) (sp : Nat → Sp) : Prop where
  len : ∀ n vs H Q E, sp n vs H Q E → vs.length = ps.length
  run : ∀ (A : Around) (outer : List Env) (s : Shared) (H : Hp) (args : Args) (us : List Value) (vs : List V) (Q : VK) (E : XK), Room k A → Env0 P w K mg base A outer s H → BindsTo s fd args (ps.zip us) → Vals vs us →
    sp s.heap.objs.size vs H Q E → codeAny (model P w) A (.call (.ref f) args) (CR CX outer P w H s Q E) s
theorem fnN_of {CX : CXT} {P : Program} {w : World} {K : PySem.W.Frag} {mg : Str → Option Value} {base : Heap} {k : Nat} {f : Addr} {name qual : Str} {params : Arguments} {body : List Stmt} {scope : Scope} {fd : FuncData} {N ps : List Str} {sp : Nat → Sp}
    (F : FunD K name qual params body scope [] [] f fd) (S : FnScope N ps scope) (len : ∀ n vs H Q E, sp n vs H Q E → vs.length = ps.length)
    (hbody : ∀ (cdv : Value) (A : Around) (outer : List Env) (s : Shared) (H : Hp) (vs : List V) (Q : VK) (E : XK), Room k (A.deeper (envOfC qual scope s.heap.objs.size f cdv)) → sp s.heap.objs.size vs H Q E →
      ∃ t, PSs (cxOf CX P w K mg base N qual scope f cdv A outer s H E) body t ∧ t { nx := fun _ H' => Q .non H', rt := Q } (start N vs) H) : FnN P w K mg base CX (k + 1) f fd ps sp := by
  obtain ⟨oc, od, dV, kV, doc, pm, an, cdv, ct, osl, rfl, lk, hcd, _, _⟩ := F.ex
  refine ⟨len, fun A outer s H args us vs Q E hr e0 hb r hsp => ?_⟩
  have hl := len _ _ _ _ _ hsp
  have kin : K.In s.heap := e0.mod.kin.keeps fun b o e => (e0.bs b o e).1
  have lim : s.heap.NoLimit := e0.mod.nolimit.keeps fun b o e => (e0.bs b o e).1
  have kinds : ∀ y ∈ ps.zip us, scope.names.lookup y.1 = some .local ∨ (scope.names.lookup y.1 = some .cell ∧ ((cellsFrom (s.heap.objs.size + 1) scope.names []).lookup y.1).isSome = true) := fun y hy =>
    (S.par y.1 (List.of_mem_zip hy).1).imp id fun q => ⟨q, PySem.W.cellsFrom_some _ _ _ (.inl q)⟩
  refine codeAny_call_function hr.depth (kin _ _ lk) rfl S.co S.gen rfl (PySem.W.codeRec_of kin hcd) (hb _ _ _ _ ?_)
  refine wpAny_newFunctionEnv_cells S.kind kinds fun env he s1 x => ?_
  subst he
  refine ⟨lim.keeps x.toInCall.keep, codeAny_func ?_⟩
  obtain ⟨t, ht, hq⟩ := hbody cdv A outer s H vs Q E (hr.deeper _) hsp
  have I := inv_start (CX := CX) (mg := mg) (f := f) (cd := cdv) (outer := outer) (E := E) S hr.hd e0 hl r x
  refine wpAny_mono (ht.run [] s1 (start N vs) H _ I hq) (fun fl s' hs => ?_) fun e s' hs => hs
  cases fl with
  | ret u =>
    obtain ⟨v, σ', H', J, rv, q⟩ := hs
    exact ⟨v, H', J.os, J.bare, J.base, J.hok, rv, q⟩
  | next =>
    obtain ⟨σ', H', J, q⟩ := hs
    exact ⟨.non, H', J.os, J.bare, J.base, J.hok, rfl, q⟩
  | brk =>
    obtain ⟨_, _, _, q⟩ := hs
    exact q.elim
  | cont =>
    obtain ⟨_, _, _, q⟩ := hs
    exact q.elim

/-- at it an iterator at the start of the tuple at t -/
def ItT (t it : Addr) : HO := .ext fun h => h.IsTupleIter it t 0
def rIterT (K : PySem.W.Frag) (n : Nat) : List V → Hp → VK → Prop := fun xs H Q => ∃ (t : Addr) (zs : List V), xs = [.ref t] ∧ SqT K H t zs ∧ ∀ it, H it = none → n ≤ it → Q (.ref it) (upd H it (ItT t it))
theorem itT_ok {P : Program} {w : World} {H : Hp} {h : Heap} {t it : Addr} (e : h.IsTupleIter it t 0) : ObjOk P w H h it (ItT t it) :=
  ⟨e, let ⟨o, q, _⟩ := e; ⟨o, q⟩, fun _ _ q k => q.at k⟩
section
variable {X : Cx}
theorem call_iterT : CallR X (.builtin "iter") (rIterT X.K X.s_0.heap.objs.size) := by
  intro pins s σ H xs us Q I r h
  obtain ⟨t, zs, rfl, hq, q⟩ := h
  obtain ⟨u, rfl, ru⟩ := vals1 r
  cases ru
  obtain ⟨its, rv, pl, hz⟩ := I.tuple hq
  refine Calls.call_function_entry (by decide +kernel) (by decide +kernel) PySem.W.kdk_entry_iter (PySem.W.kdk_args_iter _) ?_
  unfold Builtin.«iter»
  refine wpAny_bind (m := someArgs "iter" 1 2 _) (wpAny_of_eq (a := [Value.ref t]) (by first | rfl | kernel_rfl!) ?_)
  show wpAny _ _ (pyIter (.ref t) >>= _) _ _ _
  refine wpAny_bind (wpAny_pyIter_tuple (show s.heap.IsTuple t its.toArray from pl) ?_)
  exact wpAny_pure ⟨_, rfl, .ref s.heap.objs.size, _, I.laid (t' := s.toks) (fun b u e => Heap.get?_push_of_some _ e) (Nat.le_refl _) (itT_ok ⟨_, Heap.get?_push_size _ rfl, rfl, rfl⟩), rfl, q _ (I.hok.fresh (Nat.le_refl _)) I.sz⟩
end
/-- what __iter__ promises: iter(self.fld) -/
def spItr (K : PySem.W.Frag) (C : Addr) (fld : Str) : Nat → Sp := fun n vs H Q _ => ∃ a dx fs t xs, vs = [.ref a] ∧ H a = some (.ins C dx fs) ∧ fs.lookup fld = some (.ref t) ∧ SqT K H t xs ∧ ∀ it, H it = none → n ≤ it → Q (.ref it) (upd H it (ItT t it))
/-- what __len__ promises: len(self.fld) -/
def spLn (K : PySem.W.Frag) (C : Addr) (fld : Str) : Sp := fun vs H Q _ => ∃ a dx fs t xs, vs = [.ref a] ∧ H a = some (.ins C dx fs) ∧ fs.lookup fld = some (.ref t) ∧ SqT K H t xs ∧ Q (.int (xs.length : Int)) H
section
variable {X : Cx} {pins : List (Addr × Obj)} {σ : L2.St} {H : Hp} {s : Shared} {A : Around} {n : Nat} {C fi fl a dx t : Addr} {fd fdL : FuncData} {fld : Str} {fs : List (Str × V)} {xs : List V}
theorem own_iter {E : Value → Shared → Prop} {Q : Value → Shared → Prop} (I : Inv X pins σ H s) (sb : Sub X n A) (F : FnN X.prog X.w X.K X.mg X.base CX0 n fi fd ["self"] (spItr X.K C fld)) (b : Binds X.K fd ["self"] [])
    (hi : PySem.W.findIn X.K (.ref C) "__iter__" = some (some (.ref fi))) (hf : PySem.W.isFn X.K (.ref fi) = true) (ha : H a = some (.ins C dx fs)) (hl : fs.lookup fld = some (.ref t)) (hT : SqT X.K H t xs)
    (h : ∀ it s', Inv X pins σ H s' → s'.heap.IsTupleIter it t 0 → FpOk X pins H it → Q (.ref it) s') : wpAny (model X.prog X.w) A (pyIter (.ref a)) Q E s := by
  obtain ⟨mA, J, _⟩ := ins_get I.hok ha
  obtain ⟨od, J, _⟩ := J.look
  obtain ⟨m0, hF⟩ := I.fr
  refine PySem.W.owit_iter hF I.ok.mod.kin J hi hf ?_
  have e0 : Env0 X.prog X.w X.K X.mg X.base A X.stack s H := by
    have e := I.env0
    exact ⟨by rw [sb.fr]; exact e.frames, e.mod, e.bs, e.bsz, e.funs, e.frf, e.hok, e.bare⟩
  have hsp : spItr X.K C fld s.heap.objs.size [.ref a] H (fun v H' => ∃ it, v = .ref it ∧ H it = none ∧ s.heap.objs.size ≤ it ∧ H' = upd H it (ItT t it)) (fun _ _ _ => False) :=
    ⟨a, dx, fs, t, xs, rfl, ha, hl, hT, fun it h1 h2 => ⟨it, rfl, h1, h2, rfl⟩⟩
  have r2 : Vals [V.ref a] [Value.ref a] := .cons rfl .nil
  refine wpAny_call (codeAny_mono (F.run A X.stack s H ⟨[.ref a], []⟩ [.ref a] [.ref a] _ _ sb.room e0 (by simpa using b s [.ref a] I.kIn rfl) r2 hsp) fun r s' hq => ?_)
  cases r with
  | error e => exact hq.elim
  | ok f =>
    cases f with
    | next => exact hq.elim
    | brk => exact hq.elim
    | cont => exact hq.elim
    | ret u =>
      obtain ⟨v, H', I', rv, it, ev, hn, hle, eH⟩ := I.after hq
      subst ev eH
      cases rv
      have e1 : upd H it (ItT t it) it = some (.ext fun h => h.IsTupleIter it t 0) := upd_same
      have st : s'.heap.IsTupleIter it t 0 := (I'.hok it _ e1).1
      have I2 := ItX.inv_drop I' e1
      have fp := ItX.inv_fp I' e1 (Nat.le_trans I.sz hle)
      rw [ItX.dropH_upd hn] at I2 fp
      unfold PySem.W.OwitIt
      exact wpAny_specialOf st.typeIs PySem.F.slot_tuple_iterator_next.lookup (h it s' I2 st fp)

/-- for .. in e, e an instance -/
def iOwn (K : PySem.W.Frag) (C : Addr) (fld : Str) (te : TE) : TI := fun σ H R => te σ H fun x H1 => ∃ a dx fs t xs, x = .ref a ∧ H1 a = some (.ins C dx fs) ∧ fs.lookup fld = some (.ref t) ∧ SqT K H1 t xs ∧ R (Itt K t) H1
theorem pi_own {tg e : Expr} {te : TE} (he : PE X e te) (F : FnN X.prog X.w X.K X.mg X.base CX0 n fi fd ["self"] (spItr X.K C fld)) (hr : Room n X.A) (b : Binds X.K fd ["self"] [])
    (hi : PySem.W.findIn X.K (.ref C) "__iter__" = some (some (.ref fi))) (hf : PySem.W.isFn X.K (.ref fi) = true) : PI X tg e (iOwn X.K C fld te) := by
  refine ⟨fun pins s σ H R I h => thn (he.run pins s σ H _ I h) fun v s1 ⟨x, H1, I1, r1, a, dx, fs, t, xs, ex, ha, hl, hT, q⟩ => ?_⟩
  subst ex
  cases r1
  refine own_iter I1 ⟨hr, rfl⟩ F b hi hf ha hl hT fun it s' I' st fp => ?_
  exact ⟨it, [it], _, _, H1, rfl, I', turn_tuple t it, st, fun c hc => by
    rw [show c = it by simpa using hc]
    exact fp, q⟩

/-- the length that list() asks for -/
theorem own_len {E : Value → Shared → Prop} {Q : Bool → Shared → Prop} (I : Inv X pins σ H s) (sb : Sub X n A.in1) (F : FnOk X.prog X.w X.K X.mg X.base CX0 n fl fdL ["self"] (spLn X.K C fld)) (b : Binds X.K fdL ["self"] [])
    (hi : PySem.W.findIn X.K (.ref C) "__len__" = some (some (.ref fl))) (hf : PySem.W.isFn X.K (.ref fl) = true) (ha : H a = some (.ins C dx fs)) (hl : fs.lookup fld = some (.ref t)) (hT : SqT X.K H t xs)
    (h : ∀ b s', Inv X pins σ H s' → (∀ c o, s.heap.get? c = some o → H c = none → c ∉ frs X.stack → s'.heap.get? c = some o) → Q b s') : wpAny (model X.prog X.w) A (Builtin.List.listLengthHint (.ref a)) Q E s := by
  obtain ⟨mA, J, _⟩ := ins_get I.hok ha
  obtain ⟨od, J, _⟩ := J.look
  obtain ⟨m0, hF⟩ := I.fr
  obtain ⟨its, rvx, pl, hz⟩ := I.tuple hT
  unfold Builtin.List.listLengthHint
  refine wpAny_bind (wpAny_bind (J.type.here ((PySem.W.looks_findIn I.kIn hi).here ?_)))
  refine PySem.W.KFB.if_not rfl ?_
  show wpAny _ _ (rule "list.length-hint.len" >>= _) _ _ _
  refine wpAny_bind (wpAny_rule ?_)
  refine wpAny_bind (wpAny_attempt (PySem.W.len_K hF I.ok.mod.kin J hi hf ?_))
  have e0 : Env0 X.prog X.w X.K X.mg X.base A.in1 X.stack s H := by
    have e := I.env0
    exact ⟨by rw [sb.fr]; exact e.frames, e.mod, e.bs, e.bsz, e.funs, e.frf, e.hok, e.bare⟩
  have hsp : spLn X.K C fld [.ref a] H (fun v H' => v = .int (xs.length : Int) ∧ H' = H) (fun _ _ _ => False) := ⟨a, dx, fs, t, xs, rfl, ha, hl, hT, rfl, rfl⟩
  have r2 : Vals [V.ref a] [Value.ref a] := .cons rfl .nil
  refine wpAny_call (codeAny_mono (F.run A.in1 X.stack s H ⟨[.ref a], []⟩ [.ref a] [.ref a] _ _ sb.room e0 (by simpa using b s [.ref a] I.kIn rfl) r2 hsp) fun r s' hq => ?_)
  cases r with
  | error e => exact hq.elim
  | ok f =>
    cases f with
    | next => exact hq.elim
    | brk => exact hq.elim
    | cont => exact hq.elim
    | ret u =>
      have hun : Un (frs X.stack) [] H H s.heap s'.heap := by
        obtain ⟨v, H', _, _, un, _, _, _, eH⟩ := hq
        rw [eH] at un
        exact un
      obtain ⟨v, H', I', rv, ev, eH⟩ := I.after hq
      subst ev
      rw [eH] at I'
      obtain ⟨tk, rfl⟩ := rv
      have hz2 : xs.length ≤ 16777216 := by
        rw [← sizeLine_eq]
        exact hz
      refine ⟨⟨by omega, by omega⟩, ?_⟩
      refine wpAny_bind (m := asInt? _) (wpAny_pure ?_)
      dsimp only
      refine PySem.W.KFB.if_not ?_ ?_
      · show decide (_ > _) = false
        refine decide_eq_false fun q => ?_
        rw [Int.toNat_natCast] at q
        omega
      · refine wpAny_pure (h _ _ (I'.tok _) fun c o q1 q2 q3 => hun.keep c o q1 q2 q3 (fun z => nomatch z))

/-- a list that a loop of the machine's has filled: all else but what walked stands -/
theorem inv_filled {h' : Heap} {tk q it cc : Nat} {zs ys : List V} {acc : List Value} (I : Inv X pins σ H s) (hq : H q = some (.lst zs)) (fp : FpOk X pins H it)
    (k : ∀ b o, b ≠ q → b ≠ it → s.heap.get? b = some o → h'.get? b = some o) (e : h'.get? q = some { cls := .type "list", dict := none, data := .seq acc.toArray cc, slots := #[] }) (rv : Vals ys acc) (hz : ys.length ≤ sizeLine) :
    Inv X pins σ (upd H q (.lst ys)) { s with heap := h', toks := tk } := by
  obtain ⟨f0, f1, f2, f3, f4, f5⟩ := fp
  have nq : ∀ b, H b = none → b ≠ q := fun b n z => by
    rw [z, hq] at n
    cases n
  have ni : ∀ b u, H b = some u → b ≠ it := fun b u e z => by
    rw [z, f0] at e
    cases e
  have other : ∀ b u, H b = some u → u ≠ .lst zs → upd H q (.lst ys) b = some u := fun b u e ne => by
    rw [upd_ne fun z => ne (by
      rw [z, hq] at e
      exact (Option.some.inj e).symm)]
    exact e
  refine I.step (g' := s.gens) (d' := s.drawn) (ch := [it]) (fun b hb => ?_) (fun b o _ _ hc e n => k b o (nq b n) (fun z => hc (by simp [z])) e) (fun b o _ _ hc e n => ⟨o.slots, k b o (nq b n) (fun z => hc (by simp [z])) e⟩) (fun b o _ e n => ?_)
    (fun b o hc u => ?_) (fun b xs u => other b _ u fun z => nomatch z) (fun b o x u => other b _ u fun z => nomatch z) (fun b ps u => ⟨#[], by rw [other b _ u fun z => nomatch z]; simp⟩) (fun m hm => ?_) (fun b u eb => ?_) I.bare
  · rw [show b = it by simpa using hb]
    exact ⟨f3, f1, f4, f5⟩
  · rw [upd_ne (nq b n)]
    exact n
  · by_cases z : b = q
    · rw [z]
      exact ⟨_, e⟩
    · exact ⟨o, k b o z (fun z => hc (by simp [z])) u⟩
  · obtain ⟨o, es, ep, ho, r⟩ := hm
    exact ⟨o, es, ep, k _ o (nq _ I.free) (Ne.symm f1) ho, r⟩
  · by_cases z : b = q
    · subst z
      rw [upd_same] at eb
      cases eb
      exact ⟨hz, acc, cc, rv, e⟩
    · rw [upd_ne z] at eb
      refine (I.hok b u eb).stay (fun c v hc r => k c v ?_ ?_ r) (fun c r => other c _ r fun z => nomatch z) fun c xs r => other c _ r fun z => nomatch z
      · rcases hc with y | y
        · rw [y]
          exact z
        · intro y2
          rw [y2, hq] at y
          cases y
      · rcases hc with y | y
        · rw [y]
          exact ni b u eb
        · exact ni c _ y
/-- list(e), e an instance -/
def rListOwn (K : PySem.W.Frag) (C : Addr) (fld : Str) : List V → Hp → VK → Prop := fun vs H Q => ∃ a dx fs t xs, vs = [.ref a] ∧ H a = some (.ins C dx fs) ∧ fs.lookup fld = some (.ref t) ∧ SqT K H t xs ∧ ∀ q, H q = none → Q (.ref q) (upd H q (.lst xs))
theorem call_listInst (F : FnN X.prog X.w X.K X.mg X.base CX0 n fi fd ["self"] (spItr X.K C fld)) (b : Binds X.K fd ["self"] []) (hi : PySem.W.findIn X.K (.ref C) "__iter__" = some (some (.ref fi))) (hf : PySem.W.isFn X.K (.ref fi) = true)
    (FL : FnOk X.prog X.w X.K X.mg X.base CX0 n fl fdL ["self"] (spLn X.K C fld)) (bL : Binds X.K fdL ["self"] []) (hiL : PySem.W.findIn X.K (.ref C) "__len__" = some (some (.ref fl))) (hfL : PySem.W.isFn X.K (.ref fl) = true)
    (hr : Room (n + 4) X.A) (hc : X.calm = true) : CallR X (.type "list") (rListOwn X.K C fld) := by
  intro pins s σ H vs us Q I rv h
  obtain ⟨a, dx, fs, t, xs, rfl, ha, hl, hT, hQ⟩ := h
  obtain ⟨u, rfl, ru⟩ := vals1 rv
  cases ru
  have sb : Sub X (n + 1) X.A.in1.in1.in1 := Sub.in1 (Sub.in1 (Sub.in1 (⟨hr, rfl⟩ : Sub X (n + 1 + 1 + 1 + 1) X.A)))
  refine callType_codes (Q₁ := fun obj s₁ => obj = .ref s.heap.objs.size ∧ s₁ = { s with heap := s.heap.push { cls := .type "list", data := .seq #[] } }) PySem.F.called_list (PySem.F.typeCall_list_1 _) PySem.F.entry_list_init (code_list_new _ ⟨rfl, rfl⟩) fun obj s₁ h₁ => ?_
  obtain ⟨rfl, rfl⟩ := h₁
  generalize hS0 : s.heap.objs.size = S
  have fr : H S = none := by
    rw [← hS0]
    exact I.hok.fresh (Nat.le_refl _)
  have hS : (s.heap.push { cls := .type "list", data := .seq #[] }).get? S = some { cls := .type "list", data := .seq #[] } := by
    rw [← hS0]
    exact Heap.get?_push_size _ rfl
  refine ⟨⟨_, hS, rfl⟩, PySem.F.args_list_init_2 _ _, ?_⟩
  have I1 : Inv X pins σ (upd H S (.lst [])) { s with heap := s.heap.push { cls := .type "list", data := .seq #[] } } := by
    rw [← hS0]
    exact I.lnew (its := []) (t' := s.toks) .nil (Nat.zero_le _)
  show wpAny _ _ (do let old ← Builtin.List.listItems (.ref S); Builtin.List.listUpdate (.ref S) (fun _ => #[]); letGo old.toList.reverse; Builtin.List.listExtendWith (.ref S) (.ref a) .none) _ _ _
  refine wpAny_bind ?_
  unfold Builtin.List.listItems
  refine wpAny_bind (wpAny_seqItems hS rfl (wpAny_pure ?_))
  show wpAny _ _ (updateSeq S (fun _ => #[]) >>= fun _ => letGo (#[] : Array Value).toList.reverse >>= fun _ => Builtin.List.listExtendWith (.ref S) (.ref a) .none) _ _ _
  refine wpAny_bind (wpAny_updateSeq hS rfl ?_)
  have I2 := I1.lset (f := fun _ => #[]) (its := []) (its' := []) (ys := []) (t' := s.toks) upd_same hS rfl .nil (Nat.zero_le _)
  rw [upd_upd] at I2
  refine wpAny_bind (wpAny_letGo ?_)
  generalize hs2 : ({ s with heap := (s.heap.push { cls := .type "list", data := .seq #[] }).update S (Obj.mapSeq fun _ => #[]), toks := s.toks } : Shared) = s2 at I2
  have ha2 : upd H S (.lst []) a = some (.ins C dx fs) := by rw [upd_ne (ne_of_none ha fr)]; exact ha
  have hT2 : SqT X.K (upd H S (.lst [])) t xs := hT.ext (Ext.upd fr)
  have hne : S ≠ a := Ne.symm (ne_of_none ha fr)
  obtain ⟨mA, J, _⟩ := ins_get I2.hok ha2
  obtain ⟨od, J, _⟩ := J.look
  unfold Builtin.List.listExtendWith
  refine wpAny_bind (J.type.here ?_)
  have h1 : Builtin.List.listSameRef (.ref S) (.ref a) = false := by simp [Builtin.List.listSameRef, hne]
  have h2 : (Value.ref C == Value.type "list") = false := rfl
  have h3 : (Value.ref C == Value.type "tuple") = false := rfl
  simp only [h1, h2, h3, Bool.or_false, Bool.false_eq_true, if_false]
  have sb2 : Sub X n X.A.in1.in1 := ⟨(sb.mono (Nat.le_succ n)).room.units0 |> fun _ => (Sub.in1 (Sub.in1 (⟨hr.mono (by omega), rfl⟩ : Sub X (n + 1 + 1) X.A))).room, rfl⟩
  refine wpAny_bind (own_iter I2 sb2 F b hi hf ha2 hl hT2 fun it s3 I3 st fp => ?_)
  refine wpAny_bind (wpAny_holding (own_len I3 (sb.mono (Nat.le_succ n)) FL bL hiL hfL ha2 hl hT2 fun room s4 I4 k4 => ?_))
  have nfr : it ∉ frs X.stack := fun z => (List.mem_cons.mp (I3.stkSub it z)).elim fp.2.1 fp.2.2.1
  have st4 : s4.heap.IsTupleIter it t 0 := st.at fun o q => k4 it o q fp.1 nfr
  have key : ∀ s5, Inv X pins σ (upd H S (.lst [])) s5 → s5.heap.IsTupleIter it t 0 → codeAny (model X.prog X.w) X.A.in1 (.builtin "list.extend.loop" ⟨[.ref S, .ref it, .none], []⟩) (wants (fun r s₂ => r = .none ∧ EP X pins σ Q (.ref S) s₂) X.xe) s5 := fun s5 I5 st5 => by
    obtain ⟨z5, its5, c5, r5, _, e5⟩ := I5.lstM upd_same
    cases r5
    obtain ⟨its, rvx, pl, hz⟩ := I5.tuple hT2
    have neS : S ≠ it := fun z => by
      have q := fp.1
      rw [← z, upd_same] at q
      cases q
    have neT : t ≠ it := fun z => by
      obtain ⟨o, q, hc2, _⟩ := pl
      obtain ⟨o', q', hc', _⟩ := st5
      rw [z, q'] at q
      cases q
      rw [hc2] at hc'
      exact absurd hc' (by decide)
    have neTS : S ≠ t := fun z => by
      obtain ⟨o, q, hc2, _⟩ := pl
      rw [← z, e5] at q
      cases q
      exact absurd (show Value.type "list" = Value.type "tuple" from hc2) (by decide)
    have W := (Walks.tuple (prog := X.prog) (w := X.w) (A := X.A.in1.in1) (by simp [I.ok.hd hc]) it t neT its.toArray).toS
    have hsz : its.toArray.size = xs.length := by rw [List.size_toArray, ← rvx.length]
    refine codeAny_extend_loopS W (by rw [hsz]; exact hz) S (by simp [neS, neTS]) .none its.toArray.size 0 s5 #[] c5 (Nat.sub_zero _) (Nat.zero_le _) ⟨st5, pl⟩ e5 (ItemsOf.nil _) fun s6 acc c6 hm e6 hacc => ?_
    rw [Moved.eq_with hm]
    refine ⟨rfl, .ref S, upd H S (.lst xs), ?_, rfl, hQ S fr⟩
    have ea : acc = its.toArray := by
      refine Array.ext (hacc.1) fun j h1 h2 => ?_
      have q : its.toArray[j]? = some acc[j] := hacc.2 j acc[j] (Array.getElem?_eq_getElem h1)
      rw [Array.getElem?_eq_getElem h2] at q
      exact (Option.some.inj q).symm
    have r := inv_filled (q := S) (it := it) (cc := c6) (acc := its) (tk := s6.toks) (h' := s6.heap) I5 upd_same fp (fun b o q1 q2 q => hm.heap b o (by simp [q1, q2]) q) (by rw [← ea]; exact e6) rvx hz
    rw [upd_upd] at r
    exact r
  refine wpAny_ite_split (fun _ => ?_) (fun _ => wpAny_pure ⟨plainId_quiet PySem.F.plain_extend_loop _, key s4 I4 st4⟩)
  refine wpAny_bind (wpAny_rule ?_)
  refine wpAny_bind ?_
  show wpAny _ _ (updateSeq S (·.push .none) >>= fun _ => updateSeq S (·.pop)) _ _ _
  obtain ⟨z4, its4, c4, r4, _, e4⟩ := I4.lstM upd_same
  cases r4
  have neS : S ≠ it := fun z => by
    have q := fp.1
    rw [← z, upd_same] at q
    cases q
  refine wpAny_bind (wpAny_updateSeq e4 rfl ?_)
  have I5 := I4.lset (f := (·.push Value.none)) (its := []) (its' := [Value.none]) (ys := [.non]) (t' := s4.toks) upd_same e4 (by simp) (.cons rfl .nil) (by rw [List.length_singleton, sizeLine_eq]; decide)
  obtain ⟨z5, its5, c5, r5, _, e5⟩ := I5.lstM upd_same
  obtain ⟨u5, rfl, ru5⟩ := vals1 r5
  refine wpAny_updateSeq e5 rfl ?_ (by show 1 ≤ sizeLine; rw [sizeLine_eq]; decide) (by show 0 ≤ sizeLine + 1; exact Nat.zero_le _)
  have I6 := I5.lset (f := (·.pop)) (its := [u5]) (its' := []) (ys := []) (t' := s4.toks) upd_same e5 (by rfl) .nil (Nat.zero_le _)
  rw [upd_upd, upd_upd] at I6
  refine wpAny_pure ⟨plainId_quiet PySem.F.plain_extend_loop _, key _ I6 (st4.at fun o q => ?_)⟩
  exact (Heap.get?_update_other _ _ neS).trans ((Heap.get?_update_other _ _ neS).trans q)
end
end Wr
/-! sets of texts: add, sorted, and set comprehensions with two for -/
namespace Wr
open PySem PySem.Spec PyProof.Rows L2

def txOf (e : Int × Value) : Str := match e.2 with | .str x _ => x | _ => ""
def TxE (w : World) (e : Int × Value) : Prop := ∃ x tk, e.2 = Value.str x tk ∧ e.1 = hashStr w x
/-- the set of texts at a: L its members in the table's order -/
def SetS (w : World) (h : Heap) (a : Addr) (L : List Str) : Prop :=
  ∃ o es ep t, h.get? a = some o ∧ o.ExactSet ∧ o.data = .set es ep t ∧ (∀ e ∈ es.toList, TxE w e) ∧ L = es.toList.map txOf ∧ L.Nodup ∧ es.size < scanBound ∧ t.fits es.size = true ∧ Ris t.place.toList ∧
    (w.params.followText "set-order" = true ∨ t.led = true)
section
variable {P : Program} {w : World} {h h' : Heap} {a : Addr} {L : List Str}
theorem SetS.at (R : SetS w h a L) (k : ∀ o, h.get? a = some o → h'.get? a = some o) : SetS w h' a L := by
  obtain ⟨o, es, ep, t, ho, r⟩ := R
  exact ⟨o, es, ep, t, k o ho, r⟩
theorem tx_elems {l : List (Int × Value)} (g : ∀ e ∈ l, TxE w e) : ElemsOf (strKind P w) l := by
  intro e he
  obtain ⟨x, tk, h1, h2⟩ := g e he
  refine ⟨⟨x, ?_, h2⟩, ?_⟩
  · rw [h1]; exact strKind_is P w x tk
  · rw [h1] <;> rfl
theorem tx_is {e : Int × Value} (g : TxE w e) (k : Str) : (strKind P w).is k e.2 = true ↔ txOf e = k := by
  obtain ⟨x, tk, h1, _⟩ := g
  have t1 : txOf e = x := by unfold txOf; rw [h1]
  rw [t1, h1]
  constructor
  · intro q
    exact ((strKind P w).inj _ _ _ q (strKind_is P w x tk)).symm
  · intro q
    rw [← q]; exact strKind_is P w x tk
theorem tx_mem {l : List (Int × Value)} (g : ∀ e ∈ l, TxE w e) (k : Str) : k ∈ l.map txOf ↔ ∃ e ∈ l, (strKind P w).is k e.2 = true := by
  rw [List.mem_map]
  exact ⟨fun ⟨e, he, q⟩ => ⟨e, he, (tx_is (g e he) k).2 q⟩, fun ⟨e, he, q⟩ => ⟨e, he, (tx_is (g e he) k).1 q⟩⟩
end
section
variable {P : Program} {w : World} {A : Around} {E : Value → Shared → Prop} {s : Shared} {a : Addr} {L : List Str}
theorem stored_at {h : Heap} {a : Addr} {o : Obj} {es es2 : Array (Int × Value)} {ep : Nat} {t t2 : SetTable} (ho : h.get? a = some o) (hd : o.data = .set es ep t) :
    (h.update a (Obj.putSet es2 t2)).get? a = some { o with data := .set es2 (ep + 1) t2 } := by
  have e := putSet_of es2 t2 hd
  have q := Heap.get?_update_self (Obj.putSet es2 t2) ho (by rw [e] <;> rfl)
  rw [e] at q
  exact q
/-- what follows the laying of a new member: the store, and the table laid anew where it is too full -/
theorem setS_rest {g : Bool → Sem Unit} (hg : ∀ (b : Bool) (s₁ : Shared) (Q' : Unit → Shared → Prop), Q' () s₁ → wpAny (model P w) A (g b) Q' E s₁)
    {o : Obj} {es : Array (Int × Value)} {ep : Nat} {t : SetTable} (ho : s.heap.get? a = some o) (hex : o.ExactSet) (hd : o.data = .set es ep t)
    {en : Array (Int × Value)} {t2 : SetTable} (gn : ∀ e ∈ en.toList, TxE w e) (nd : (en.toList.map txOf).Nodup)
    (hb : en.size < scanBound) (hf : t2.fits en.size = true) (hr : Ris t2.place.toList) (hl : w.params.followText "set-order" = true ∨ t2.led = true) {dum : Bool} {R : Option Bool → Shared → Prop}
    (hR : ∀ h' L', Heap.SameBut a s.heap h' → SetS w h' a L' → L'.Perm (en.toList.map txOf) → R (some true) { s with heap := h' }) :
    wpAny (model P w) A (do
        storeSet a en t2
        if (!dum && t2.tooFull) = true then do
            g (relayAll t2 en (SetTable.grown en.size)).2.2
            storeSet a (relayAll t2 en (SetTable.grown en.size)).1 (relayAll t2 en (SetTable.grown en.size)).2.1
            pure (some true)
          else pure (some true)) R E s := by
  refine wpAny_bind (wpAny_storeSet_of ho hd ?_ (fits_of_scanBound hb))
  have hoN := stored_at (es2 := en) (t2 := t2) ho hd
  have sbN := Heap.SameBut.update s.heap a (Obj.putSet en t2)
  split
  case isFalse => exact wpAny_pure (hR _ _ sbN ⟨_, en, _, t2, hoN, hex, rfl, gn, rfl, nd, hb, hf, hr, hl⟩ (List.Perm.refl _))
  case isTrue =>
    have w1 := relayAll_perm t2 en (SetTable.grown en.size)
    have w2 := relayAll_fits t2 en (SetTable.grown en.size)
    have w3 := relayAll_ris t2 en (SetTable.grown en.size)
    have w4 := relayAll_led t2 en (SetTable.grown en.size)
    generalize relayAll t2 en (SetTable.grown en.size) = Z at w1 w2 w3 w4 ⊢
    obtain ⟨eo, t3, gave⟩ := Z
    dsimp only at w1 w2 w3 w4 ⊢
    have hsz : eo.size = en.size := by
      have q := w1.length_eq
      rw [Array.length_toList, Array.length_toList] at q
      exact q
    have pm := w1.map txOf
    have hb2 : eo.size < scanBound := hsz ▸ hb
    refine wpAny_bind (hg _ _ _ (wpAny_bind (wpAny_storeSet_of hoN rfl ?_ (fits_of_scanBound hb2))))
    have hoM := stored_at (es2 := eo) (t2 := t3) hoN rfl
    refine wpAny_pure (hR _ _ (sbN.trans (Heap.SameBut.update _ a _)) ⟨_, eo, _, t3, hoM, hex, rfl, fun e he => gn e (w1.mem_iff.mp he), rfl, pm.nodup_iff.mpr nd, hb2, w2, w3, ?_⟩ pm)
    rcases hl with z | z
    · exact .inl z
    · exact .inr (by rw [w4]; exact z)
theorem setS_hashed {k : Str} {tk : Tok} {Q : Bool → Shared → Prop} (R : SetS w s.heap a L) (room : L.length + 1 < scanBound)
    (hQ : ∀ b h' L', Heap.SameBut a s.heap h' → SetS w h' a L' → (k ∈ L → L' = L) → (k ∉ L → L'.Perm (k :: L)) → Q b { s with heap := h' }) :
    wpAny (model P w) A (setAddHashed a (.str k tk) ((strKind P w).hash k)) Q E s := by
  obtain ⟨o, es, ep, t, ho, hex, hd, g, hL, nd, hb, hf, hr, hl⟩ := R
  have hlen : L.length = es.size := by rw [hL, List.length_map, Array.length_toList]
  have key := strKind_is P w k tk
  have hsc : (Value.str k tk).scannable = true := rfl
  have hel : ElemsOf (strKind P w) es.toList := tx_elems g
  have gave_way : ∀ (b : Bool) {s₁ : Shared} {Q' : Unit → Shared → Prop}, Q' () s₁ → wpAny (model P w) A (match b with | true => rule "set.scan.the-table-gave-way" | false => pure ()) Q' E s₁ := by
    intro b s₁ Q' q
    cases b <;> first | exact wpAny_pure q | exact wpAny_rule q
  unfold setAddHashed setAddHashedIn
  refine wpAny_holding (wpAny_bind (wpAny_setState_of ho hd hf ?_))
  dsimp only
  rw [byScan_of hsc hb hel]
  simp only [↓reduceIte]
  unfold setAddByScan
  refine wpAny_bind (wpAny_bind (wpAny_rule (wpAny_bind (wpAny_setScan_of key ho hd hf hel ?_))))
  cases hfi : List.findIdx? (fun e => (strKind P w).is k e.2) es.toList with
  | some j =>
    dsimp only
    obtain ⟨hj, pj, _⟩ := List.findIdx?_eq_some_iff_getElem.mp hfi
    have hin : k ∈ L := by rw [hL]; exact (tx_mem (P := P) g k).2 ⟨es.toList[j], List.getElem_mem hj, pj⟩
    exact wpAny_pure (wpAny_pure (hQ _ s.heap L (Heap.SameBut.refl a s.heap) ⟨o, es, ep, t, ho, hex, hd, g, hL, nd, hb, hf, hr, hl⟩ (fun _ => rfl) fun z => absurd hin z))
  | none =>
    dsimp only
    have hnk : k ∉ L := by
      intro z
      rw [hL] at z
      obtain ⟨e, he, q⟩ := (tx_mem (P := P) g k).1 z
      have c := List.findIdx?_eq_none_iff.mp hfi e he
      rw [q] at c
      cases c
    have u1 := layNew_perm t es ((strKind P w).hash k) (.str k tk)
    have u2 := layNew_fits t es ((strKind P w).hash k) (.str k tk)
    have u3 := layNew_ris t es ((strKind P w).hash k) (.str k tk) hr
    have u4 := layNew_led t es ((strKind P w).hash k) (.str k tk)
    generalize layNew t es ((strKind P w).hash k) (.str k tk) = Z at u1 u2 u3 u4 ⊢
    obtain ⟨en, tn, dum, gave⟩ := Z
    dsimp only at u1 u2 u3 u4 ⊢
    rw [Array.toList_push] at u1
    have pc : en.toList.Perm (((strKind P w).hash k, Value.str k tk) :: es.toList) := u1.trans (List.perm_append_singleton _ _)
    have pk : (en.toList.map txOf).Perm (k :: L) := by rw [hL]; exact pc.map txOf
    have gn : ∀ e ∈ en.toList, TxE w e := by
      intro e he
      rcases List.mem_cons.mp (pc.mem_iff.mp he) with z | z
      · rw [z]; exact ⟨k, tk, rfl, rfl⟩
      · exact g e z
    have ndn : (en.toList.map txOf).Nodup := pk.nodup_iff.mpr (List.nodup_cons.mpr ⟨hnk, nd⟩)
    have hszn : en.size = L.length + 1 := by
      have q := pk.length_eq
      rw [List.length_map, Array.length_toList, List.length_cons] at q
      exact q
    have hbn : en.size < scanBound := by rw [hszn]; exact room
    have led : w.params.followText "set-order" = true ∨ tn.led = true := by
      rcases hl with z | z
      · exact .inl z
      · exact .inr (by rw [u4]; exact z)
    have fin : ∀ b h' L', Heap.SameBut a s.heap h' → SetS w h' a L' → L'.Perm (en.toList.map txOf) → Q b { s with heap := h' } := fun b h' L' sb r p =>
      hQ b h' L' sb r (fun z => absurd z hnk) fun _ => p.trans pk
    refine wpAny_bind (gave_way _ ?_)
    split
    · refine wpAny_bind ?_
      rw [hashByValue_scannable 8 hsc]
      refine wpAny_pure (setS_rest ?_ ho hex hd gn ndn hbn ?_ ?_ ?_ ?_)
      · intro b s₁ Q' q; cases b <;> first | exact wpAny_pure q | exact wpAny_rule q
      · first | (split <;> first | exact u2 | exact SetTable.fits_plain_off u2) | exact u2
      · first | (split <;> exact u3) | exact u3
      · first | (split <;> exact led) | exact led
      · intro h' L' sb r p; dsimp only; exact wpAny_pure (fin _ h' L' sb r p)
    · refine wpAny_bind (wpAny_pure ?_)
      simp only [↓reduceIte]
      refine setS_rest ?_ ho hex hd gn ndn hbn u2 u3 led ?_
      · intro b s₁ Q' q; cases b <;> first | exact wpAny_pure q | exact wpAny_rule q
      · intro h' L' sb r p; dsimp only; exact wpAny_pure (fin _ h' L' sb r p)
theorem SetS.setOf (R : SetS w s.heap a L) : s.heap.SetOf (strKind P w) a (fun k => decide (k ∈ L)) L.length := by
  obtain ⟨o, es, ep, t, ho, hex, hd, g, hL, nd, hb, hf, _⟩ := R
  refine ⟨o, es, ep, t, ho, hex, hd, tx_elems g, fun k => ?_, hb, hf, ?_⟩
  · rw [decide_eq_true_eq, hL]; exact tx_mem g k
  · rw [hL, List.length_map, Array.length_toList]
/-- the call of add -/
theorem setS_call {k : Str} {tk : Tok} {Q : Value → Shared → Prop} (R : SetS w s.heap a L) (room : L.length + 1 < scanBound)
    (hQ : ∀ h' L', Heap.SameBut a s.heap h' → SetS w h' a L' → (k ∈ L → L' = L) → (k ∉ L → L'.Perm (k :: L)) → Q .none { s with heap := h', toks := s.toks + 1 }) :
    wpAny (model P w) A (call (.builtin "set.add") [.ref a, .str k tk]) Q E s := by
  have hS : s.heap.SetOf (strKind P w) a (fun k => decide (k ∈ L)) L.length := R.setOf
  refine wpAny_call_entry F.slot_set_add hS.typeIs F.entry_set_add ?_ (F.args_set_add_2 _ _)
  unfold Builtin.«set.add» Builtin.Frozenset.oneOther
  simp only [List.isEmpty_nil, bind_assoc]
  unfold Builtin.Frozenset.addrOf setAdd
  refine wpAny_bind (wpAny_pure ?_)
  try dsimp only
  refine wpAny_bind (wpAny_pure ?_)
  try dsimp only
  refine wpAny_bind (wpAny_holding (wpAny_bind ((strKind P w).pyHash (strKind_is P w k tk) ?_)))
  refine setS_hashed (s := { s with toks := s.toks + 1 }) R room fun b h' L' sb r c1 c2 => ?_
  show wpAny _ _ (ret Value.none) _ _ _
  exact wpAny_pure ⟨_, rfl, hQ h' L' sb r c1 c2⟩
theorem setS_fresh {h : Heap} (w : World) : SetS w (h.push { cls := .type "set", dict := none, data := .set #[] 0 (.fresh 0 0 (!w.params.followText "set-order")) }) h.objs.size [] := by
  refine ⟨_, #[], 0, _, Heap.get?_push_size _ rfl, ⟨rfl, rfl, rfl⟩, rfl, ?_, rfl, List.nodup_nil, by decide, by rfl, List.Pairwise.nil, ?_⟩
  · intro e he; simp at he
  · show _ ∨ (!w.params.followText "set-order") = true
    cases w.params.followText "set-order"
    · exact .inr rfl
    · exact .inl rfl
theorem strs_txs : ∀ (vs : List Value), (∀ v ∈ vs, ∃ x t, v = Value.str x t) → StrsAre vs (vs.map fun v => txOf (0, v))
  | [], _ => .nil
  | v :: vs, h => by
    obtain ⟨x, t, rfl⟩ := h _ List.mem_cons_self
    exact .cons x t (strs_txs vs fun v m => h v (List.mem_cons_of_mem _ m))
/-- sorted of the set -/
theorem setS_sorted {Q : Value → Shared → Prop} (R : SetS w s.heap a L) (hh : A.handled = none) (h64 : L.length < 64)
    (hQ : ∀ s' p (out : Array Value) (c : Nat) (ys : List Str), (∀ b o, s.heap.get? b = some o → s'.heap.get? b = some o) → s'.gens = s.gens → s'.os = s.os → s.heap.objs.size ≤ p →
      s'.heap.get? p = some (seqObj "list" out c) → StrsAre out.toList ys → ys.Perm L → sortedS ys = true → Q (.ref p) s') :
    wpAny (model P w) A (call (.builtin "sorted") [.ref a]) Q E s := by
  obtain ⟨o, es, ep, t, ho, hex, hd, g, hL, nd, hb, hf, hr, hl⟩ := R
  refine Calls.call_function_entry kind_sorted plain_sorted entry_sorted (args_sorted1 _) ?_
  unfold Builtin.«sorted»
  refine wpAny_bind (m := checkCount "sorted" 1 1 _) (wpAny_pure ?_)
  refine wpAny_bind (collect_set (A := A.in1) hh ⟨o, ho, hex.1, hd⟩ hf hb hr hl fun s1 vs k1 hz g1 o1 pm => ?_)
  have e1 : (es.toList.map (·.2)).map (fun v => txOf (0, v)) = L := by rw [hL, List.map_map]; rfl
  have pv : (vs.map fun v => txOf (0, v)).Perm L := by rw [← e1]; exact pm.map _
  have hvl : vs.length = L.length := by
    have q := pv.length_eq
    rwa [List.length_map] at q
  have hS : StrsAre vs (vs.map fun v => txOf (0, v)) := strs_txs vs fun v hv => by
    obtain ⟨e, he, q⟩ := List.mem_map.mp (pm.mem_iff.mp hv)
    obtain ⟨k, tk, h1, _⟩ := g e he
    exact ⟨k, tk, q ▸ h1⟩
  refine wpAny_bind (wpAny_newList ?_ (by rw [hvl, sizeLine_eq]; omega))
  have hoL : (s1.heap.push (seqObj "list" vs.toArray 0)).get? s1.heap.objs.size = some (seqObj "list" vs.toArray 0) := Heap.get?_push_size _ rfl
  refine wpAny_bind (wpAny_holding (wpAny_call_entry slot_list_sort ⟨_, hoL, rfl⟩ entry_list_sort
    (list_sort_treeK strKind_oneLt hoL hS.keysOf (fun v₁ v₂ rest e => keyKind_strs (by rw [← e]; exact hS)) (by rw [hvl]; exact h64) fun st' hp hs => ⟨_, rfl, ?_⟩) (args_list_sort _)))
  obtain ⟨ys, a1, a2, a3⟩ := sorted_out_str hS hp hs
  obtain ⟨c, hc⟩ := sortedHeap_at (vs := vs) (out := (arrOf st').map (·.2)) hoL
  refine wpAny_pure ⟨_, rfl, hQ _ s1.heap.objs.size _ c ys (fun b u e => ?_) g1 o1 hz hc a1 (a2.trans pv) a3⟩
  have q := k1 b u e
  have hlt := Heap.lt_size q
  show (sortedHeap (s1.heap.push (seqObj "list" vs.toArray 0)) s1.heap.objs.size vs _).get? b = some u
  rw [sortedHeap_old (Nat.ne_of_lt hlt) (by rw [size_push']; exact Nat.lt_succ_of_lt hlt)]
  exact Heap.get?_push_of_some _ q
end
/-! as tracked things -/
def SetSO (w : World) (a : Addr) (L : List Str) : HO := .ext fun h => SetS w h a L
theorem setSO_new {w : World} {P : Program} {H : Hp} {h : Heap} {a : Addr} {L : List Str} (R : SetS w h a L) : ObjOk P w H h a (SetSO w a L) := by
  have ⟨o, _, _, _, ho, _⟩ := R
  exact ⟨R, ⟨o, ho⟩, fun h1 h2 p k => SetS.at p k⟩
theorem setO_new' {P : Program} {w : World} {H : Hp} (h : Heap) : ObjOk P w H (h.push { cls := .type "set", dict := none, data := .set #[] 0 (.fresh 0 0 (!w.params.followText "set-order")) }) h.objs.size (SetSO w h.objs.size []) :=
  setSO_new (setS_fresh w)
section
variable {X : Cx}
theorem setSO_get {pins : List (Addr × Obj)} {σ : L2.St} {H : Hp} {s : Shared} {a : Addr} {L : List Str} (I : Inv X pins σ H s) (ha : H a = some (SetSO X.w a L)) : SetS X.w s.heap a L := (I.hok a _ ha).1
/-- what a set that had L may hold behind the adding of k -/
def Added (k : Str) (L L' : List Str) : Prop := (k ∈ L → L' = L) ∧ (k ∉ L → L'.Perm (k :: L))
theorem addS_ok {pins : List (Addr × Obj)} {σ : L2.St} {H : Hp} {s : Shared} {E : Value → Shared → Prop} {D : Addr} {L : List Str} {y : Str} {u : Value} {Q : Value → Shared → Prop} (I : Inv X pins σ H s) (r : RelV (.str y) u) (hD : H D = some (SetSO X.w D L)) (room : L.length + 1 < scanBound)
    (h : ∀ s' L', Added y L L' → Inv X pins σ (upd H D (SetSO X.w D L')) s' → Q .none s') : wpAny (model X.prog X.w) X.A (call (.builtin "set.add") [.ref D, u]) Q E s := by
  obtain ⟨tk, rfl⟩ := r
  refine setS_call (setSO_get I hD) room fun h' L' sb new c1 c2 => h _ L' ⟨c1, c2⟩ ?_
  have he : ∃ u, h'.get? D = some u := by
    have ⟨o, _, _, _, ho, _⟩ := new
    exact ⟨o, ho⟩
  exact I.write (e := D) (t' := s.toks + 1) (by rw [hD]; trivial) (.inl rfl) (fun b u hb hu => (sb.2 b hb).trans hu) he (setSO_new new)
def rSortSO (w : World) : List V → Hp → VK → Prop := fun vs H Q => ∃ a L, vs = [.ref a] ∧ H a = some (SetSO w a L) ∧ L.length < 64 ∧
  ∀ ys p, ys.Perm L → sortedS ys = true → H p = none → Q (.ref p) (upd H p (.lst (ys.map V.str)))
theorem cr_sortSO (hc : X.calm = true) : CallR X (.builtin "sorted") (rSortSO X.w) := by
  intro pins s σ H vs us Q I r h
  obtain ⟨a, L, rfl, ha, h64, q⟩ := h
  rw [Vals.ref1 r]
  refine setS_sorted (setSO_get I ha) (I.ok.hd hc) h64 fun s' p out c ys k1 g1 o1 hp hat a1 a2 a3 => ?_
  have nH : H p = none := I.hok.fresh hp
  have hlen : (ys.map V.str).length ≤ sizeLine := by rw [List.length_map, a2.length_eq]; exact small64 h64
  refine ⟨.ref p, upd H p (.lst (ys.map V.str)), ?_, rfl, q ys p a2 a3 nH⟩
  exact I.call' (ch := []) o1 (Un.laid k1 hp nH) (I.hok.laid k1 hp ⟨hlen, out.toList, c, vals_of_strs a1, hat⟩) (by rw [g1]; exact I.bare) fun _ z => nomatch z
end
/-! {elt for .. in .. if .. for .. in .. if ..} -/
section
variable {prog : Program} {w : World} {A : Around} {R : Result → Shared → Prop} {s : Shared} {el g0 j0 g1 j1 : Expr} {f0 f1 : List Expr} {sc : Scope} {pos : Pos} {it acc : Value} {env : Env}
abbrev sc2 (el g0 j0 g1 j1 : Expr) (f0 f1 : List Expr) (sc : Scope) (pos : Pos) : Expr := .SetComp el [⟨g0, j0, f0, 0⟩, ⟨g1, j1, f1, 0⟩] sc pos
abbrev testsOf (fs : List Expr) (env : Env) : Sem Bool := forIn fs true fun c r => if r = true then do let ok ← isTrue c env (eval c env); pure (ForInStep.yield ok) else pure (ForInStep.yield r)
theorem turn_outer : compTurn (sc2 el g0 j0 g1 j1 f0 f1 sc pos) 0 it acc env = (do
      standAt j0.pos
      match ← pyNext it with
      | none => pure (.done .next)
      | some v =>
        letOwnedTupleGo g0 it v
        assign g0 env v
        let ok ← testsOf f0 env
        if ok then
          let x ← eval j1 env
          standAt j1.pos
          let x ← foldedSetIterable j1 env x
          let _ ← runOwn (.compStart (sc2 el g0 j0 g1 j1 f0 f1 sc pos) 1 (← holding [x] (pyIter x)) acc env) env
        again (.compLoop (sc2 el g0 j0 g1 j1 f0 f1 sc pos) 0 it acc env)) := by rfl
theorem turn_inner : compTurn (sc2 el g0 j0 g1 j1 f0 f1 sc pos) 1 it acc env = (do
      standAt j1.pos
      match ← pyNext it with
      | none => pure (.done .next)
      | some v =>
        letOwnedTupleGo g1 it v
        assign g1 env v
        let ok ← testsOf f1 env
        if ok then
          (do let v ← eval el env; standAt el.pos; let _ ← call (.builtin "set.add") [acc, v])
        again (.compLoop (sc2 el g0 j0 g1 j1 f0 f1 sc pos) 1 it acc env)) := by rfl
/-- the first clause's loop -/
theorem loop_outer (fold : ∀ x, foldedSetIterable j1 env x = pure x) (J : Nat → Shared → Prop)
    (turn : ∀ n s, J n s → wpAny (model prog w) A (pyNext it) (fun r s₁ => match r with
      | none => R (.ok .next) s₁
      | some v => wpAny (model prog w) A (letOwnedTupleGo g0 it v) (fun _ s₂ => wpAny (model prog w) A (assign g0 env v) (fun _ s₃ => wpAny (model prog w) A (testsOf f0 env) (fun ok s₄ =>
          if ok = true then wpAny (model prog w) A (eval j1 env) (fun x s₅ => wpAny (model prog w) A (pyIter x) (fun it1 s₆ =>
              codeAny (model prog w) A (.compStart (sc2 el g0 j0 g1 j1 f0 f1 sc pos) 1 it1 acc env) (fun r s' => match r with
                | .ok _ => ∃ m, m < n ∧ J m s'
                | .error _ => False) s₆) (notedBy (model prog w) A env fun e s' => R (.error e) s') s₅) (notedBy (model prog w) A env fun e s' => R (.error e) s') s₄
          else ∃ m, m < n ∧ J m s₄) (notedBy (model prog w) A env fun e s' => R (.error e) s') s₃) (notedBy (model prog w) A env fun e s' => R (.error e) s') s₂) (notedBy (model prog w) A env fun e s' => R (.error e) s') s₁) (notedBy (model prog w) A env fun e s' => R (.error e) s') s)
    (n : Nat) (h : J n s) : codeAny (model prog w) A (.compLoop (sc2 el g0 j0 g1 j1 f0 f1 sc pos) 0 it acc env) R s := by
  refine codeAny_loop rfl J (fun n s hJ => ?_) n h
  show wpAny _ A ((compTurn (sc2 el g0 j0 g1 j1 f0 f1 sc pos) 0 it acc env).onRaise (fun x => do noteFrame x env; theTreesLotGoes x)) _ _ s
  refine wpAny_noted ?_
  rw [turn_outer]
  refine wpAny_bind (wpAny_standAt (wpAny_bind (wpAny_mono (turn n s hJ) ?_ fun _ _ z => z)))
  rintro (_ | v) s₁ b1
  · exact wpAny_pure b1
  refine wpAny_bind (wpAny_mono b1 (fun _ s₂ b2 => wpAny_bind (wpAny_mono b2 (fun _ s₃ b3 => wpAny_bind (wpAny_mono b3 ?_ fun _ _ z => z)) fun _ _ z => z)) fun _ _ z => z)
  rintro (_ | _) s₄ b4
  · exact wpAny_pure ⟨rfl, b4⟩
  refine wpAny_bind (wpAny_mono b4 (fun x s₅ b5 => wpAny_bind (wpAny_standAt (wpAny_bind ?_))) fun _ _ z => z)
  refine wpAny_of_eq (fold x) (wpAny_bind (wpAny_holding (wpAny_mono b5 (fun it1 s₆ b6 => ?_) fun _ _ z => z)))
  refine wpAny_bind (wpAny_runOwn ?_)
  rw [Around.mark_none]
  refine codeAny_mono b6 ?_
  rintro (e | fl) s' br
  · exact br.elim
  · first
      | exact wpAny_pure ⟨rfl, br⟩
      | exact wpAny_bind (wpAny_pure (wpAny_pure ⟨rfl, br⟩))
/-- the second clause's loop -/
theorem loop_inner (J : Nat → Shared → Prop)
    (turn : ∀ n s, J n s → wpAny (model prog w) A (pyNext it) (fun r s₁ => match r with
      | none => R (.ok .next) s₁
      | some v => wpAny (model prog w) A (letOwnedTupleGo g1 it v) (fun _ s₂ => wpAny (model prog w) A (assign g1 env v) (fun _ s₃ => wpAny (model prog w) A (testsOf f1 env) (fun ok s₄ =>
          if ok = true then wpAny (model prog w) A (eval el env) (fun x s₅ => wpAny (model prog w) A (call (.builtin "set.add") [acc, x]) (fun _ s₆ => ∃ m, m < n ∧ J m s₆)
              (notedBy (model prog w) A env fun e s' => R (.error e) s') s₅) (notedBy (model prog w) A env fun e s' => R (.error e) s') s₄
          else ∃ m, m < n ∧ J m s₄) (notedBy (model prog w) A env fun e s' => R (.error e) s') s₃) (notedBy (model prog w) A env fun e s' => R (.error e) s') s₂) (notedBy (model prog w) A env fun e s' => R (.error e) s') s₁) (notedBy (model prog w) A env fun e s' => R (.error e) s') s)
    (n : Nat) (h : J n s) : codeAny (model prog w) A (.compLoop (sc2 el g0 j0 g1 j1 f0 f1 sc pos) 1 it acc env) R s := by
  refine codeAny_loop rfl J (fun n s hJ => ?_) n h
  show wpAny _ A ((compTurn (sc2 el g0 j0 g1 j1 f0 f1 sc pos) 1 it acc env).onRaise (fun x => do noteFrame x env; theTreesLotGoes x)) _ _ s
  refine wpAny_noted ?_
  rw [turn_inner]
  refine wpAny_bind (wpAny_standAt (wpAny_bind (wpAny_mono (turn n s hJ) ?_ fun _ _ z => z)))
  rintro (_ | v) s₁ b1
  · exact wpAny_pure b1
  refine wpAny_bind (wpAny_mono b1 (fun _ s₂ b2 => wpAny_bind (wpAny_mono b2 (fun _ s₃ b3 => wpAny_bind (wpAny_mono b3 ?_ fun _ _ z => z)) fun _ _ z => z)) fun _ _ z => z)
  rintro (_ | _) s₄ b4
  · exact wpAny_pure ⟨rfl, b4⟩
  exact wpAny_bind (wpAny_bind (wpAny_mono b4 (fun x s₅ b5 => wpAny_bind (wpAny_standAt (wpAny_bind (wpAny_mono b5 (fun _ s₆ b6 => wpAny_pure (wpAny_pure ⟨rfl, b6⟩)) fun _ _ z => z)))) fun _ _ z => z))
theorem start_inner (h0 : codeAny (model prog w) A (.compLoop (sc2 el g0 j0 g1 j1 f0 f1 sc pos) 1 it acc env) R s)
    (h : wpAny (model prog w) A (pyIter it) (fun it' s' => codeAny (model prog w) A (.compLoop (sc2 el g0 j0 g1 j1 f0 f1 sc pos) 1 it' acc env) R s')
      (notedBy (model prog w) A env fun x s' => R (.error x) s') s) :
    codeAny (model prog w) A (.compStart (sc2 el g0 j0 g1 j1 f0 f1 sc pos) 1 it acc env) R s := by
  refine codeAny_of_tree ?_
  show wpAny _ _ ((compStart (sc2 el g0 j0 g1 j1 f0 f1 sc pos) 1 it acc env).onRaise (fun x => do noteFrame x env; standAt theWindowsPlace)) _ _ s
  refine wpAny_notedAt ?_
  unfold compStart
  show wpAny _ _ (ask >>= _) _ _ s
  refine wpAny_bind (wpAny_askSetting (wpAny_ite ?_))
  split
  · first
      | exact wpAny_bind (wpAny_pure (wpAny_pure ⟨rfl, h0⟩))
      | exact wpAny_pure ⟨rfl, h0⟩
  · refine wpAny_bind (wpAny_rule ?_)
    first
      | exact wpAny_bind (wpAny_standAt (wpAny_bind (wpAny_mono h (fun it' s' z => wpAny_pure ⟨rfl, z⟩) fun _ _ x => x)))
      | (show wpAny _ _ (standAt j1.pos >>= _) _ _ s; exact wpAny_bind (wpAny_standAt (wpAny_bind (wpAny_mono h (fun it' s' z => wpAny_pure ⟨rfl, z⟩) fun _ _ x => x))))
end
section
variable {X : Cx}
/-- {el for g0 in j0 if .. for g1 in j1 if ..}: D the new set of texts; vs: the block's names, vs1: those of the second target -/
def tSc2 (w : World) (wi : TI) (g : TG) (tt : TT) (wi1 : TI) (g1 : TG) (tt1 : TT) (te : TE) (vs vs1 : List Nat) : TE := fun σ H Q => wi σ H fun J H1 => ∀ D, H1 D = none →
  ∃ W : Nat → Nat → Hp → Prop, (∃ m, W 0 m (upd H1 D (SetSO w D []))) ∧ ∀ i m H, W i m H →
  (J.stop i H ∧ Q (.ref D) H) ∨ (J.go i H ∧ ∃ Nx : Hp → Prop, (∀ H', Nx H' → ∃ m', m' < m ∧ W (i + 1) m' H') ∧ ∀ x H', J.yld i H x H' → g x (wipe σ vs) H' fun σ2 H2 => wipe σ2 vs = wipe σ vs ∧ tt σ2 H2 fun b H3 =>
    if b = true then wi1 σ2 H3 fun J1 H4 => ∃ W1 : Nat → Nat → Hp → Prop, (∃ m, W1 0 m H4) ∧ ∀ j k H, W1 j k H →
      (J1.stop j H ∧ Nx H) ∨ (J1.go j H ∧ ∃ Nx1 : Hp → Prop, (∀ H', Nx1 H' → ∃ k', k' < k ∧ W1 (j + 1) k' H') ∧ ∀ x H', J1.yld j H x H' → g1 x (wipe σ2 vs1) H' fun σ3 H5 => wipe σ3 vs1 = wipe σ2 vs1 ∧ tt1 σ3 H5 fun b H6 =>
        if b = true then te σ3 H6 fun y H7 => ∃ (c : Str) (L : List Str), y = .str c ∧ H7 D = some (SetSO w D L) ∧ L.length + 1 < scanBound ∧ ∀ L', Added c L L' → Nx1 (upd H7 D (SetSO w D L')) else Nx1 H6)
    else Nx H3)
abbrev cellsAt (X : Cx) (sc : Scope) (n : Nat) : List (Str × Addr) := cellsFrom (n + 1) sc.names (cloFrom X.env.cells sc.names [])
theorem pe_sc2 {el g0 j0 g1 j1 : Expr} {f0 f1 : List Expr} {sc : Scope} {own : List (Str × Nat)} {vs1 : List Nat} {pos : Pos} {wi wi1 : TI} {g gI : TG} {tt tt1 : TT} {te : TE} (hc : X.calm = true) (hN : X.N.Nodup) (hi : PI X g0 j0 wi) (ok : BlkOk X.N X.env.scope sc own) (hv : ∀ i ∈ vs1, i ∈ own.map (·.2))
    (hg : ∀ (s : Shared) (H : Hp) (C : Addr) (cl : List (Str × Addr)) (fp : List Addr), PG (X.blk s H sc (compEnvC sc cl C X.env) fp) g0 g)
    (ht : ∀ (s : Shared) (H : Hp) (C : Addr) (cl : List (Str × Addr)) (fp : List Addr), PTs (X.blk s H sc (compEnvC sc cl C X.env) fp) f0 tt)
    (hi1 : ∀ (s : Shared) (H : Hp) (C : Addr) (cl : List (Str × Addr)) (fp : List Addr), PI (X.blk s H sc (compEnvC sc cl C X.env) fp) g1 j1 wi1)
    (hg1 : ∀ (s : Shared) (H : Hp) (C : Addr) (cl : List (Str × Addr)) (fp : List Addr), PG (X.blk s H sc (compEnvC sc cl C X.env) fp) g1 gI)
    (ht1 : ∀ (s : Shared) (H : Hp) (C : Addr) (cl : List (Str × Addr)) (fp : List Addr), PTs (X.blk s H sc (compEnvC sc cl C X.env) fp) f1 tt1)
    (he : ∀ (s : Shared) (H : Hp) (C : Addr) (cl : List (Str × Addr)) (fp : List Addr), PE (X.blk s H sc (compEnvC sc cl C X.env) fp) el te)
    (hs : ∀ x, foldedSetIterable j0 X.env x = pure x := by intro _; rfl) (hs1 : ∀ env x, foldedSetIterable j1 env x = pure x := by intro _ _; rfl) :
    PE X (.SetComp el [⟨g0, j0, f0, 0⟩, ⟨g1, j1, f1, 0⟩] sc pos) (tSc2 X.w wi g tt wi1 gI tt1 te (own.map (·.2)) vs1) := by
  refine ⟨fun pins s σ H Q I h => ?_⟩
  rw [PpSet.eval_SetComp]
  generalize hvs : own.map (·.2) = vs at h hv
  refine wpAny_comprehension_free (use := none) rfl hs (closure_ok fun y hy e => (ok.free y hy e).elim (fun k => I.ok.has _ (.inl k)) fun k => I.ok.has _ (.inr k)) ok.kind (fun y hy e => by rw [ok.uniq y hy, e])
    (thn (hi.run pins s σ H _ I h) fun xv s1 hx => thn hx fun itv s2 h2 => ?_)
  obtain ⟨it, fp, tn, J, H2, e, I2, T, st2, f2, q⟩ := h2
  subst e
  refine PpSet.newSet_ok (newEnv_comp ?_)
  have old : ∀ b ∈ fp, b < s2.heap.objs.size := fun b hb => by
    obtain ⟨o, e, _⟩ := T.obj _ _ st2 b hb
    exact Heap.lt_size e
  have D0 : H2 s2.heap.objs.size = none := I2.hok.fresh (Nat.le_refl _)
  obtain ⟨W, ⟨m0, w0⟩, turn⟩ := q s2.heap.objs.size D0
  have new := setO_new' (P := X.prog) (w := X.w) (H := upd H2 s2.heap.objs.size (SetSO X.w s2.heap.objs.size [])) s2.heap
  generalize eD : s2.heap.objs.size = D at D0 w0 turn new old ⊢
  generalize eob : ({ cls := .type "set", dict := none, data := .set #[] 0 (.fresh 0 0 (!X.w.params.followText "set-order")) } : Obj) = ob at new ⊢
  have kp : ∀ b o, s2.heap.get? b = some o → (s2.heap.push ob).get? b = some o := fun b o e => Heap.get?_push_of_some _ e
  have I3 : Inv X pins σ (upd H2 D (SetSO X.w D [])) { s2 with heap := s2.heap.push ob } := I2.laid (t' := s2.toks) kp (Nat.le_of_eq eD) new
  have hz3 : (s2.heap.push ob).objs.size = s2.heap.objs.size + 1 := Heap.size_push _ _
  have f3 : ∀ b ∈ fp, FpOk X pins (upd H2 D (SetSO X.w D [])) b ∧ b < (s2.heap.push ob).objs.size := fun b hb => by
    have lt := old b hb
    have ne : b ≠ D := Nat.ne_of_lt lt
    exact ⟨⟨by rw [upd_ne ne]; exact (f2 b hb).1, (f2 b hb).2⟩, by rw [hz3, eD]; exact Nat.lt_succ_of_lt lt⟩
  have st3 : tn 0 (s2.heap.push ob) := T.keep _ _ _ st2 fun b _ o e => kp b o e
  generalize hs3 : ({ s2 with heap := s2.heap.push ob } : Shared) = s3 at I3
  have hh3 : s3.heap = s2.heap.push ob := by rw [← hs3]
  rw [← hh3] at f3 st3
  show codeAny _ _ (.compStart (sc2 el g0 j0 g1 j1 f0 f1 sc pos) 0 (.ref it) (.ref D) (compEnvC sc (cellsAt X sc s3.heap.objs.size) s3.heap.objs.size X.env)) (compPost (model X.prog X.w) X.A X.xe none (EP X pins σ Q) (.ref D) s3.heap.objs.size)
    { s3 with heap := pushCells (s3.heap.push { cls := .type "dict", data := .dict #[] }) sc.names }
  generalize hH3 : upd H2 D (SetSO X.w D []) = H3 at I3 w0 f3
  have I4 := block_start I3 ok hN f3
  have pg := hg s3 H3 s3.heap.objs.size (cellsAt X sc s3.heap.objs.size) fp
  have pt := ht s3 H3 s3.heap.objs.size (cellsAt X sc s3.heap.objs.size) fp
  have pe := he s3 H3 s3.heap.objs.size (cellsAt X sc s3.heap.objs.size) fp
  have qi := hi1 s3 H3 s3.heap.objs.size (cellsAt X sc s3.heap.objs.size) fp
  have qg := hg1 s3 H3 s3.heap.objs.size (cellsAt X sc s3.heap.objs.size) fp
  have qt := ht1 s3 H3 s3.heap.objs.size (cellsAt X sc s3.heap.objs.size) fp
  have nfp : ∀ b ∈ fp, H3 b = none := fun b hb => (f3 b hb).1.1
  rw [hvs] at I4
  generalize hce : compEnvC sc (cellsAt X sc s3.heap.objs.size) s3.heap.objs.size X.env = ce at I4 pg pt pe qi qg qt ⊢
  have cL : ce.locals = s3.heap.objs.size := by rw [← hce] <;> rfl
  generalize hs4 : ({ s3 with heap := pushCells (s3.heap.push { cls := .type "dict", data := .dict #[] }) sc.names } : Shared) = s4 at I4 ⊢
  have st4 : tn 0 s4.heap := T.keep _ _ _ st3 fun b _ o e => by rw [← hs4]; exact pushCells_keeps _ _ _ _ (Heap.get?_push_of_some _ e)
  have stat : ∀ {σ' : L2.St} {H' : Hp} {s' : Shared}, Inv (X.blk s3 H3 sc ce fp) [] σ' H' s' → (∀ b ∈ fp, H' b = none) → ∀ b ∈ fp, FpOk (X.blk s3 H3 sc ce fp) [] H' b := fun {σ' H' s'} I' hn b hb =>
    ⟨hn b hb, (I'.ok.exf b hb).1, I'.ok.exfs b hb, .inl hb, fun x c e => (I'.ok.exf b hb).2 x c e, fun p hp => absurd (show p ∈ ([] : List (Addr × Obj)) ++ [] from hp) (by simp)⟩
  suffices loop : codeAny (model X.prog X.w) X.A (.compLoop (sc2 el g0 j0 g1 j1 f0 f1 sc pos) 0 (.ref it) (.ref D) ce) (compPost (model X.prog X.w) X.A X.xe none (EP X pins σ Q) (.ref D) s3.heap.objs.size) s4 from
    PpSet.codeAny_compStart_set loop (T.self X.A 0 _ _ _ st4 loop)
  refine loop_outer (hs1 ce) (fun n s' => ∃ i H', Inv (X.blk s3 H3 sc ce fp) [] (wipe σ vs) H' s' ∧ tn i s'.heap ∧ (∀ b ∈ fp, H' b = none) ∧ W i n H') ?_ m0 ⟨0, H3, I4, st4, nfp, w0⟩
  rintro n s5 ⟨i, H5, I5, st5, n5, w5⟩
  rcases turn i n H5 w5 with ⟨stop, qq⟩ | ⟨go, Nx, hNx, step⟩
  · refine thnF (T.done (X.blk s3 H3 sc ce fp) rfl rfl rfl hc i [] s5 _ H5 (fun _ _ => False) I5 (stat I5 n5) st5 stop) fun r s6 ⟨hr, I6⟩ => ?_
    subst hr
    have I7 : Inv X pins σ H5 s6 := I3.call' (ch := fp) I6.os I6.base I6.hok I6.bare fun b hb => ⟨(f3 b hb).1.2.2.2.1, (f3 b hb).1.2.1, (f3 b hb).1.2.2.2.2.1, (f3 b hb).1.2.2.2.2.2⟩
    have nC : H5 s3.heap.objs.size = none := cL ▸ (I6.free : H5 ce.locals = none)
    obtain ⟨m, hn, _⟩ := I6.loc
    have hn : s6.heap.Ns s3.heap.objs.size m := cL ▸ (hn : s6.heap.Ns ce.locals m)
    obtain ⟨z0, z1, z2, z3, z4, z5⟩ := I3.fpOk (Nat.le_refl _) nC
    exact ⟨m, hn, fun h'' sb => ⟨.ref D, H5, I7.turned (t' := s6.toks) (fun b o hb e => (sb.2 b hb).trans e) z0 z1 z3 z4 z5, rfl, qq⟩⟩
  refine thnF (T.item (X.blk s3 H3 sc ce fp) rfl rfl rfl hc i [] s5 _ H5 (fun _ _ => False) I5 (stat I5 n5) st5 go) fun r s6 ⟨u, hr, h6⟩ => ?_
  subst hr
  refine thnF h6 fun _ s7 ⟨x, H7, I7, r7, y7, st7, n7⟩ => ?_
  refine thnF (pg.run _ s7 _ H7 x u _ (I7.pinned (stat I7 n7) (T.obj _ _ st7)) r7 (step x H7 y7)) fun _ s8 ⟨σ8, H8, I8, hw8, q8⟩ => ?_
  refine thnF (pt.run _ s8 σ8 H8 _ I8 q8) fun b s9 ⟨H9, I9, q9⟩ => ?_
  have back : ∀ {σ9 : L2.St} {s' : Shared} {H' : Hp}, Inv (X.blk s3 H3 sc ce fp) ([] ++ pinsAt fp s7.heap) σ9 H' s' → (wipe σ vs).length = σ9.length → (∀ (j : Nat) v, (wipe σ vs)[j]? = some (some v) → σ9[j]? = some (some v)) → Nx H' →
      ∃ m, m < n ∧ ∃ i H', Inv (X.blk s3 H3 sc ce fp) [] (wipe σ vs) H' s' ∧ tn i s'.heap ∧ (∀ b ∈ fp, H' b = none) ∧ W i m H' := fun {σ9 s' H'} I' hl hk nx => by
    obtain ⟨m', hm, w'⟩ := hNx H' nx
    have held : ∀ b ∈ fp, ∀ o, s7.heap.get? b = some o → s'.heap.get? b = some o ∧ H' b = none := fun b hb o e =>
      have z := I'.pin (b, o) (List.mem_append_right _ (List.mem_append_right _ (mem_pinsAt hb e)))
      ⟨z.1, z.2.1⟩
    refine ⟨m', hm, i + 1, H', (I'.unpinned (pins := [])).weak hl hk, T.keep _ _ _ st7 fun b hb o e => (held b hb o e).1, fun b hb => ?_, w'⟩
    obtain ⟨o, e, _⟩ := T.obj _ _ st7 b hb
    exact (held b hb o e).2
  have hl8 : (wipe σ vs).length = σ8.length := by rw [← hw8, wipe_length]
  cases b with
  | false =>
    rw [if_neg Bool.false_ne_true] at q9 ⊢
    exact back I9 hl8 (fun j v e => by rw [← hw8] at e; exact (wipe_some e).1) q9
  | true =>
    rw [if_pos rfl] at q9 ⊢
    refine thnF (qi.run _ s9 σ8 H9 _ I9 q9) fun xv s10 hx => thnF hx fun itv s11 h11 => ?_
    obtain ⟨it1, fp1, tn1, J1, H11, e1, I11, T1, st11, f11, W1, ⟨m1, w1⟩, turn1⟩ := h11
    subst e1
    have stat1 : ∀ {H' : Hp}, (∀ b ∈ fp1, H' b = none) → ∀ b ∈ fp1, FpOk (X.blk s3 H3 sc ce fp) ([] ++ pinsAt fp s7.heap) H' b := fun hn b hb => ⟨hn b hb, (f11 b hb).2⟩
    have inner : codeAny (model X.prog X.w) X.A (.compLoop (sc2 el g0 j0 g1 j1 f0 f1 sc pos) 1 (.ref it1) (.ref D) ce)
        (fun r s' => match r with
          | .ok _ => ∃ m, m < n ∧ ∃ i H', Inv (X.blk s3 H3 sc ce fp) [] (wipe σ vs) H' s' ∧ tn i s'.heap ∧ (∀ b ∈ fp, H' b = none) ∧ W i m H'
          | .error _ => False) s11 := by
      refine loop_inner (fun k s' => ∃ j H', Inv (X.blk s3 H3 sc ce fp) ([] ++ pinsAt fp s7.heap) (wipe σ8 vs1) H' s' ∧ tn1 j s'.heap ∧ (∀ b ∈ fp1, H' b = none) ∧ W1 j k H') ?_ m1
        ⟨0, H11, I11.weak (wipe_length _ _) (fun j v e => (wipe_some e).1), st11, fun b hb => (f11 b hb).1, w1⟩
      rintro k s12 ⟨j, H12, I12, st12, n12, w12⟩
      rcases turn1 j k H12 w12 with ⟨stop1, nx1⟩ | ⟨go1, Nx1, hNx1, step1⟩
      · refine thnF (T1.done (X.blk s3 H3 sc ce fp) rfl rfl rfl hc j _ s12 (wipe σ8 vs1) H12 (fun _ _ => False) I12 (stat1 n12) st12 stop1) fun r s13 ⟨hr, I13⟩ => ?_
        subst hr
        refine back I13 (hl8.trans (wipe_length σ8 vs1).symm) (fun j v e => ?_) nx1
        rw [← hw8] at e
        obtain ⟨ea, eb⟩ := wipe_some e
        rw [wipe_out fun z => eb (hv j z)]
        exact ea
      refine thnF (T1.item (X.blk s3 H3 sc ce fp) rfl rfl rfl hc j _ s12 (wipe σ8 vs1) H12 (fun _ _ => False) I12 (stat1 n12) st12 go1) fun r s13 ⟨u1, hr, h13⟩ => ?_
      subst hr
      refine thnF h13 fun _ s14 ⟨x1, H14, I14, r14, y14, st14, n14⟩ => ?_
      refine thnF (qg.run _ s14 (wipe σ8 vs1) H14 x1 u1 _ (I14.pinned (stat1 n14) (T1.obj _ _ st14)) r14 (step1 x1 H14 y14)) fun _ s15 ⟨σ15, H15, I15, hw15, q15⟩ => ?_
      refine thnF (qt.run _ s15 σ15 H15 _ I15 q15) fun b1 s16 ⟨H16, I16, q16⟩ => ?_
      have back1 : ∀ {s' : Shared} {H' : Hp}, Inv (X.blk s3 H3 sc ce fp) (([] ++ pinsAt fp s7.heap) ++ pinsAt fp1 s14.heap) σ15 H' s' → Nx1 H' →
          ∃ m, m < k ∧ ∃ j H', Inv (X.blk s3 H3 sc ce fp) ([] ++ pinsAt fp s7.heap) (wipe σ8 vs1) H' s' ∧ tn1 j s'.heap ∧ (∀ b ∈ fp1, H' b = none) ∧ W1 j m H' := fun {s' H'} I' nx => by
        obtain ⟨m', hm, w'⟩ := hNx1 H' nx
        have held : ∀ b ∈ fp1, ∀ o, s14.heap.get? b = some o → s'.heap.get? b = some o ∧ H' b = none := fun b hb o e =>
          have z := I'.pin (b, o) (List.mem_append_right _ (List.mem_append_right _ (mem_pinsAt hb e)))
          ⟨z.1, z.2.1⟩
        refine ⟨m', hm, j + 1, H', I'.unpinned.weak (by rw [← hw15, wipe_length]) (fun j v e => by rw [← hw15] at e; exact (wipe_some e).1), T1.keep _ _ _ st14 fun b hb o e => (held b hb o e).1, fun b hb => ?_, w'⟩
        obtain ⟨o, e, _⟩ := T1.obj _ _ st14 b hb
        exact (held b hb o e).2
      cases b1 with
      | false =>
        rw [if_neg Bool.false_ne_true] at q16 ⊢
        exact back1 I16 q16
      | true =>
        rw [if_pos rfl] at q16 ⊢
        refine thnF (pe.run _ s16 σ15 H16 _ I16 q16) fun z s17 ⟨yv, H17, I17, r17, c, L, ey, hD17, hz17, nx⟩ => ?_
        subst ey
        exact addS_ok (X := X.blk s3 H3 sc ce fp) I17 r17 hD17 hz17 fun s18 L' ad I18 => back1 I18 (nx L' ad)
    exact start_inner inner (T1.self X.A 0 _ _ _ st11 inner)
end
end Wr
/-! sorted of a tuple of texts, tuple.count of ints, == of dicts with tuples as keys -/
namespace Wr
open PySem PySem.Spec PyProof.Rows L2
section
variable {prog : Program} {w : World} {A : Around} {E : Value → Shared → Prop} {s : Shared}
theorem collect_tup {l : Addr} {vs : List Value} {Q : List Value → Shared → Prop} (hl : s.heap.IsTuple l vs.toArray)
    (h : Q vs { s with heap := (s.heap.push (seqObj "list" #[] 0)).update s.heap.objs.size (Obj.mapSeq (· ++ vs.toArray)) }) (hsz : vs.length ≤ sizeLine) :
    wpAny (model prog w) A (collect (.ref l)) Q E s := by
  obtain ⟨o, ho, hc, n, hd⟩ := id hl
  have lt := Heap.lt_size ho
  unfold collect
  refine wpAny_bind (wpAny_runValue (codeAny_builtin entry_proto_collect' ?_))
  show wpAny _ _ (do again (.builtin "list.__iadd__" ⟨[← newList [], .ref l], []⟩)) _ _ s
  refine wpAny_bind (wpAny_newList (wpAny_pure ⟨Code.quiet_builtin _ (by decide +kernel), codeAny_builtin entry_list_iadd' ?_⟩))
  show wpAny _ _ (Builtin.List.listExtendWith (.ref s.heap.objs.size) (.ref l) (.ref s.heap.objs.size)) _ _ { s with heap := s.heap.push (seqObj "list" #[] 0) }
  unfold Builtin.List.listExtendWith
  have ho2 : (s.heap.push (seqObj "list" #[] 0)).get? l = some o := Heap.get?_push_of_some _ ho
  have hoN : (s.heap.push (seqObj "list" #[] 0)).get? s.heap.objs.size = some (seqObj "list" #[] 0) := Heap.get?_push_size _ rfl
  refine wpAny_bind (wpAny_typeOf (T := "tuple") ⟨o, ho2, hc⟩ ?_)
  have t2 : (Value.type "tuple" == Value.type "tuple") = true := by rfl
  rw [if_pos (by rw [t2]; simp)]
  refine wpAny_bind (listItems_at ho2 hd (wpAny_bind (listItems_at (xs := #[]) (n := 0) hoN rfl ?_)))
  rw [if_neg (by simp)]
  refine wpAny_bind (listUpdate_at (xs := #[]) (n := 0) hoN rfl ?_ (Nat.zero_le _) (by show (#[] ++ vs.toArray).size ≤ sizeLine + 1; simp only [Array.size_append, List.size_toArray, List.length_nil]; omega))
  refine wpAny_pure ?_
  show wpAny (model prog w) A (do
      let o ← load s.heap.objs.size
      match o.data with
      | .seq xs _ => pure xs.toList
      | _ => unsupported "internal:collect") Q E { s with heap := (s.heap.push (seqObj "list" #[] 0)).update s.heap.objs.size (Obj.mapSeq (· ++ vs.toArray)) }
  refine wpAny_bind (wpAny_load (get?_update_seq hoN _) ?_)
  show wpAny _ _ (pure ((#[] : Array Value) ++ vs.toArray).toList) Q E _
  rw [show ((#[] : Array Value) ++ vs.toArray).toList = vs by simp]
  exact wpAny_pure h
end
section
variable {X : Cx}
def rSortST (K : PySem.W.Frag) : List V → Hp → VK → Prop := fun vs H Q => ∃ (a : Addr) (xs : List Str), vs = [.ref a] ∧ SqT K H a (xs.map V.str) ∧ xs.length < 64 ∧ ∀ ys p, ys.Perm xs → sortedS ys = true → H p = none → Q (.ref p) (upd H p (.lst (ys.map V.str)))
theorem cr_sortedST : CallR X (.builtin "sorted") (rSortST X.K) := by
  intro pins s σ H vs us Q I r h
  obtain ⟨a, xs, rfl, hs, h64, q⟩ := h
  obtain ⟨its, rv, hl, _⟩ := I.tuple hs
  rw [Vals.ref1 r]
  have hlen0 := rv.length
  rw [List.length_map] at hlen0
  have hS : StrsAre its xs := rv.strs
  refine Calls.call_function_entry kind_sorted plain_sorted entry_sorted (args_sorted1 _) ?_
  unfold Builtin.«sorted»
  refine wpAny_bind (m := checkCount "sorted" 1 1 _) (wpAny_pure ?_)
  have lt : ∀ b o, s.heap.get? b = some o → b ≠ s.heap.objs.size := fun b o e => Nat.ne_of_lt (Heap.lt_size e)
  refine wpAny_bind (collect_tup (A := X.A.in1) hl ?_ (by rw [← hlen0, sizeLine_eq]; omega))
  refine wpAny_bind (wpAny_newList ?_ (by rw [← hlen0, sizeLine_eq]; omega))
  generalize hh1 : (s.heap.push (seqObj "list" #[] 0)).update s.heap.objs.size (Obj.mapSeq (· ++ its.toArray)) = h1
  have k1 : ∀ b o, s.heap.get? b = some o → h1.get? b = some o := fun b o e => by
    rw [← hh1, Heap.get?_update_ne _ _ _ _ (lt b o e)]
    exact Heap.get?_push_of_some _ e
  have sz1 : s.heap.objs.size ≤ h1.objs.size := by
    rw [← hh1, Heap.size_update, Heap.size_push]
    omega
  have hoL : (h1.push (seqObj "list" its.toArray 0)).get? h1.objs.size = some (seqObj "list" its.toArray 0) := Heap.get?_push_size _ rfl
  refine wpAny_bind (wpAny_holding (wpAny_call_entry slot_list_sort ⟨_, hoL, rfl⟩ entry_list_sort
    (list_sort_treeK strKind_oneLt hoL hS.keysOf (fun v₁ v₂ rest e => keyKind_strs (by rw [← e]; exact hS)) (by rw [← hlen0]; exact h64) fun st' hp hsd => ⟨_, rfl, ?_⟩) (args_list_sort _)))
  obtain ⟨ys, a1, a2, a3⟩ := sorted_out_str hS hp hsd
  obtain ⟨c, hc⟩ := sortedHeap_at (vs := its) (out := (arrOf st').map (·.2)) hoL
  have nH : H h1.objs.size = none := I.hok.fresh sz1
  have hlen : (ys.map V.str).length ≤ sizeLine := by rw [List.length_map, a2.length_eq]; exact small64 h64
  refine wpAny_pure ⟨_, rfl, .ref _, upd H h1.objs.size (.lst (ys.map V.str)), I.laid (t' := s.toks) (fun b u e => ?_) sz1 ⟨hlen, _, c, vals_of_strs a1, hc⟩, rfl, q ys _ a2 a3 nH⟩
  have q1 := k1 b u e
  have hlt := Heap.lt_size q1
  show (sortedHeap (h1.push (seqObj "list" its.toArray 0)) h1.objs.size its _).get? b = some u
  rw [sortedHeap_old (Nat.ne_of_lt hlt) (by rw [size_push']; exact Nat.lt_succ_of_lt hlt)]
  exact Heap.get?_push_of_some _ q1
/-- t.count(k), ints -/
def rCntT (K : PySem.W.Frag) : V → List V → Hp → VK → Prop := fun x xs H Q => ∃ (p : Addr) (ns : List Int) (k : Int), x = .ref p ∧ xs = [.int k] ∧ SqT K H p (ns.map V.int) ∧ Q (.int (ns.count k : Nat)) H
theorem mt_tcount : MtR X "tuple.count" (rCntT X.K) := by
  intro pins s σ H x xs v us Q I rx rxs h
  obtain ⟨p, ns, k, rfl, rfl, hs, q⟩ := h
  cases rx
  obtain ⟨u, rfl, ru⟩ := rxs.one
  obtain ⟨t, rfl⟩ := ru
  obtain ⟨its, rv, ⟨⟨cls, dd, data, sl⟩, ho, hc, n, hd⟩, hlen⟩ := I.tuple hs
  simp only at hc hd
  subst hc hd
  have hi := ints_of_vals rv
  refine call_meets PySem.F.slot_tuple_count ⟨_, ho, rfl⟩ PySem.F.entry_tuple_count (PySem.F.args_tuple_count_2 _ _)
    (SeqAt.tuple_countAt p its.toArray n dd sl (.int k t) (eqk k)) ⟨ho, fun y hy => (eqk_gives hi y (by simpa using hy)).at _ _, ?_⟩
  have ec : its.toArray.toList.countP (eqk k) = ns.count k := eqk_count hi
  refine ⟨.int (ns.count k : Nat), H, I.tok _, ⟨s.toks, ?_⟩, q⟩
  show Value.int ((its.toArray.toList.countP (eqk k) : Nat) : Int) s.toks = Value.int ((ns.count k : Nat) : Int) s.toks
  rw [ec]
end
/-! == of two dicts whose keys are tuples, all alike -/
section
variable {prog : Program} {w : World} {K : Type} [DecidableEq K] {knd : HeapKind prog w K} {A : Around} {E : Value → Shared → Prop} {s : Shared}
theorem same_heapD {nm : String} {a b : Addr} {ka kb : List (K × Addr × Value)} {Q : Bool → Shared → Prop} (hu : knd.room A) (ha : (a == sysModules) = false) (hb : (b == sysModules) = false)
    (da : s.heap.DictOfH knd a ka) (db : s.heap.DictOfH knd b kb) (hl : ka.length = kb.length) (hits : ∀ x ∈ ka, ∃ p, atKey kb x.1 = some p ∧ SeqAt.EqAt A s x.2.2 p.2 true) (h : Q true s) :
    wpAny (model prog w) A (Builtin.Dict.samePairs nm a b) Q E s := by
  obtain ⟨oa, es, ep, hoa, _, hda, hea, hia, hna⟩ := da
  obtain ⟨ob, fs, ep2, hob, _, hdb, heb, hib, hnb⟩ := db
  have sa := size_of_entries hea
  have sb := size_of_entries heb
  unfold Builtin.Dict.samePairs Builtin.Dict.showsAll
  rw [if_neg (show ¬ (a == sysModules) = true by rw [ha]; exact Bool.false_ne_true), if_neg (show ¬ (b == sysModules) = true by rw [hb]; exact Bool.false_ne_true)]
  refine wpAny_bind (wpAny_pure (wpAny_bind (wpAny_pure ?_)))
  refine wpAny_bind (wpAny_dictEntries hoa hda ?_)
  dsimp only
  refine wpAny_bind (wpAny_dictEntries hob hdb ?_)
  rw [if_neg (by rw [sa, sb, hl]; simp)]
  refine wpAny_bind (wpAny_dictEpoch hoa hda (wpAny_bind ?_))
  rw [Std.Legacy.Range.forIn_eq_forIn_range']
  simp only [Std.Legacy.Range.size, Nat.sub_zero, Nat.add_sub_cancel, Nat.div_one]
  refine wpAny_forIn_list _ (fun rest q s' => s' = s ∧ q = (none, ()) ∧ ∃ i, rest = List.range' i (es.size - i) ∧ i ≤ es.size) _ ?_ ?_ _ _ ⟨rfl, rfl, 0, by simp, Nat.zero_le _⟩
  · rintro x rest q s' ⟨rfl, rfl, i, hr, hi⟩
    have hlt : i < es.size := by
      rcases Nat.lt_or_ge i es.size with h | h
      · exact h
      · rw [Nat.sub_eq_zero_of_le h] at hr; simp at hr
    obtain ⟨rfl, hrest⟩ : x = i ∧ rest = List.range' (i + 1) (es.size - (i + 1)) := by
      rw [show es.size - i = (es.size - (i + 1)) + 1 by omega, List.range'_succ] at hr
      injection hr with h1 h2
      exact ⟨h1, h2⟩
    have hltk : x < ka.length := by rw [← sa]; exact hlt
    have hent : es[x]? = some (entryOfKey knd ka[x]) := by
      rw [entry_at hea x, List.getElem?_eq_getElem hltk]
      rfl
    refine wpAny_bind (wpAny_dictEntries hoa hda ?_)
    rw [hent]
    have hmem : ka[x] ∈ ka := List.getElem_mem hltk
    obtain ⟨p, hp, heq⟩ := hits ka[x] hmem
    generalize ka[x] = X at hmem hp heq hent
    obtain ⟨k, c, v⟩ := X
    show wpAny _ _ (holding [Value.ref c, v] _ >>= _) _ _ _
    refine wpAny_bind (wpAny_holding (wpAny_bind (wpAny_dictFind_heap hu (hia _ hmem) hob hdb heb hib hnb ?_ ?_)))
    · intro hno
      rw [atKey_none_of_get hno] at hp
      cases hp
    · intro j pj hj
      rw [atKey_of_get hnb hj] at hp
      obtain rfl := Option.some.inj hp
      refine wpAny_bind (wpAny_dictEntries hob hdb ?_)
      rw [entry_at heb j, hj]
      refine wpAny_holding (heq _ _ _ _ ?_)
      show wpAny _ _ (if (!true) = true then _ else _) _ _ _
      rw [if_neg (by decide)]
      refine wpAny_bind (wpAny_dictEpoch hoa hda ?_)
      rw [if_neg (by simp)]
      exact wpAny_pure ⟨rfl, rfl, x + 1, hrest, hlt⟩
  · rintro q s' ⟨rfl, rfl, i, hr, hi⟩
    exact wpAny_pure h
end
section
variable {X : Cx}
def rEqDT : R2 := fun x y H Q => ∃ a b ks ls, x = .ref a ∧ y = .ref b ∧ H a = some (.dT ks) ∧ H b = some (.dT ls) ∧ ks.length = ls.length ∧ (∀ p ∈ ks, valV ls p.1 = some p.2 ∧ flatB p.2 = true) ∧ Q (.bl true) H
theorem op_eq_dT (hu : X.A.units + 1 < cLine) : OpR X (compareOp .Eq) rEqDT := by
  intro pins s σ H x y v u Q I rx ry h
  obtain ⟨a, b, ks, ls, rfl, rfl, ea, eb, hlen, hp, q⟩ := h
  obtain rfl : v = Value.ref a := rx
  obtain rfl : u = Value.ref b := ry
  obtain ⟨_, ya, xa, ra, da⟩ := dt_of I.hok ea
  obtain ⟨_, yb, xb, rb, db⟩ := dt_of I.hok eb
  have la : xa.length = xb.length := by rw [← Paired.length ra, ← Paired.length rb]; exact hlen
  refine wpAny_richCompare_same_room (op := .Eq) da.typeIs db.typeIs PySem.F.slot_dict_eq (wpAny_call_entry PySem.F.slot_dict_eq da.typeIs PySem.F.entry_dict_eq ?_ (PySem.F.args_dict_eq_2 _ _)) (by omega)
  show wpAny _ _ (Builtin.Dict.dictSlotArgs "__eq__" ⟨[.ref a, .ref b], []⟩ >>= _) _ _ s
  refine wpAny_bind ?_
  unfold Builtin.Dict.dictSlotArgs
  refine wpAny_bind (wpAny_notOrdered_dict da.typeIs ?_)
  show wpAny _ _ (pure (Value.ref a, Value.ref b)) _ _ s
  refine wpAny_pure ?_
  refine wpAny_bind (wpAny_isInstance (T := "dict") db.typeIs PySem.F.sub_dict_dict ?_)
  simp only [Bool.not_true, Bool.false_eq_true, if_false]
  refine wpAny_bind (wpAny_pure (wpAny_bind (wpAny_pure ?_)))
  have hits : ∀ {l : List (List Key × V)} {m : List (List Key × Addr × Value)}, KT H l m → (∀ p ∈ l, valV ls p.1 = some p.2 ∧ flatB p.2 = true) → ∀ x ∈ m, ∃ p, atKey xb x.1 = some p ∧ SeqAt.EqAt X.A.in1 s x.2.2 p.2 true := by
    intro l m r
    induction r with
    | nil => intro _ x hx; exact nomatch hx
    | @cons p q ps qs hq t ih =>
      intro hall x hx
      rcases List.mem_cons.mp hx with e | hx
      · subst e
        obtain ⟨e1, f1⟩ := hall p List.mem_cons_self
        have rr := rb.val p.1
        rw [e1] at rr
        obtain ⟨u, hu1, ru⟩ := rr.some_of
        obtain ⟨pr, hpr, hpu⟩ := Option.map_eq_some_iff.mp hu1
        refine ⟨pr, by rw [← hq.1]; exact hpr, ?_⟩
        rw [hpu]
        exact eqAt_same hq.2.2 ru f1
      · exact ih (fun p' hm => hall p' (List.mem_cons_of_mem _ hm)) x hx
  refine wpAny_bind (same_heapD (tupleKind_room_in1 hu) ya yb da db la (hits ra hp) ?_)
  exact wpAny_pure ⟨_, rfl, (fun x => nomatch x), ⟨.bl true, H, I, rfl, q⟩⟩
end
end Wr
/-! a tuple made of a list, known as the object that it is; its method count -/
namespace Wr
open PySem PySem.Spec PyProof.Rows L2
section
variable {X : Cx}
def rTupF (K : PySem.W.Frag) : List V → Hp → VK → Prop := fun xs H Q => ∃ p ys, xs = [.ref p] ∧ SqL K H p ys ∧ ∀ (l : Addr) (o : Obj), H l = none → o.cls = .type "tuple" → o.dict = none → Q (.ref l) (upd H l (.frz o (.tup ys)))
theorem call_tupleF : CallR X (.type "tuple") (rTupF X.K) := by
  intro pins s σ H xs us Q I r h
  obtain ⟨p, ys, rfl, hq, q⟩ := h
  obtain ⟨u, rfl, rx⟩ := vals1 r
  cases rx
  obtain ⟨its, r', pl, hz⟩ := I.list hq
  have hlen := r'.length
  refine call_tuple_list pl.isList (fun h' kp => ?_) (by simp only [List.size_toArray] <;> omega)
  have J : Inv X pins σ H { s with heap := h' } := I.kept (t' := s.toks) kp
  have at_ : (h'.push { cls := .type "tuple", data := .seq its.toArray }).get? h'.objs.size = some { cls := .type "tuple", data := .seq its.toArray } := Heap.get?_push_size _ rfl
  refine ⟨.ref h'.objs.size, upd H h'.objs.size (.frz { cls := .type "tuple", data := .seq its.toArray } (.tup ys)), ?_, rfl, q _ _ (J.hok.fresh (Nat.le_refl _)) rfl rfl⟩
  exact J.laid (t' := s.toks) (fun b o e => Heap.get?_push_of_some _ e) (Nat.le_refl _) ⟨at_, hz, its, r', IsTup.new _ _⟩
def tTCnt (K : PySem.W.Frag) (to : TE) (t : TA) : TE := fun σ H Q => to σ H fun x H1 => (∃ (a : Addr) (o : Obj) (u : HO), x = V.ref a ∧ H1 a = some (.frz o u) ∧ o.cls = .type "tuple" ∧ o.dict = none) ∧ t σ H1 fun xs H2 => rCntT K x xs H2 Q
variable {o e : Expr} {es : List Expr} {to : TE} {t : TA} {apos cpos : Pos}
theorem pe_tcount (ho : PE X o to) (ha : PA X (e :: es) t)
    (hbase : attributeBase o "count" X.env (eval o X.env) = eval o X.env := by rfl)
    (hfew : ((backTo cpos (starEach (e :: es) X.env)).all (fun x => !x.1) && (backToKw cpos (keywordEach [] X.env)).all (fun x => x.1.isSome)
      && decide ((e :: es).length + ([] : List Keyword).length + (if ([] : List Keyword).isEmpty then 0 else 1) < 30)) = true := by rfl)
    (hline : (apos.endLine == cpos.line) = true := by rfl) (hs : starEach (e :: es) X.env = (false, eval e X.env) :: starEach es X.env := by rfl) (hplain : (backTo cpos (starEach es X.env)).any (·.1) = false := by rfl) :
    PE X (.Call (.Attribute o "count" apos) (e :: es) [] cpos) (tTCnt X.K to t) := by
  refine ⟨fun pins s σ H Q I h => ?_⟩
  refine wpAny_Call_method_late hbase hfew hline rfl (thn (ho.run pins s σ H _ I h) fun v s1 ⟨x, H1, I1, r1, ty, q1⟩ => ?_)
  obtain ⟨a, ob, u, rfl, hka, hcl, hdc⟩ := ty
  have hob : s1.heap.get? a = some ob := (I1.hok a _ hka).1
  cases r1
  refine ⟨"tuple", "tuple.count", F.plainAttrs_tuple, F.slot_tuple_count, F.type_tuple_count, ⟨ob, hob, hcl⟩, ?_, ?_⟩
  · intro b eb
    cases eb
    exact ⟨ob, hob, hdc⟩
  have hA := ha.run cpos pins s1 σ H1 _ I1 q1
  rw [hs] at hA ⊢
  refine Calls.callWith_builtin (by show (false || (backTo cpos (starEach es X.env)).any (·.1)) = false; rw [hplain] <;> rfl) (Calls.evalArgs_plain ?_)
  exact thn hA fun us s2 ⟨vs, H2, I2, r2, q2⟩ => mt_tcount pins s2 σ H2 (.ref a) vs (.ref a) us Q I2 rfl r2 q2
end
end Wr
/-! a def that is run where no repr is under way: its body's rule, and the law's end over it -/
namespace Wr
open PySem PySem.Spec PyProof.Rows L2
structure FnG (P : Program) (w : World) (K : PySem.W.Frag) (mg : Str → Option Value) (base : Heap) (CX : CXT) (k : Nat) (f : Addr) (fd : FuncData) (ps : List Str) (sp : Sp) : Prop where
  len : ∀ vs H Q E, sp vs H Q E → vs.length = ps.length
  run : ∀ (A : Around) (outer : List Env) (s : Shared) (H : Hp) (args : Args) (us : List Value) (vs : List V) (Q : VK) (E : XK), A.guards = some [] → Room k A → Env0 P w K mg base A outer s H → BindsTo s fd args (ps.zip us) → Vals vs us →
    sp vs H Q E → codeAny (model P w) A (.call (.ref f) args) (CR CX outer P w H s Q E) s
theorem fnG_of {CX : CXT} {P : Program} {w : World} {K : PySem.W.Frag} {mg : Str → Option Value} {base : Heap} {k : Nat} {f : Addr} {name qual : Str} {params : Arguments} {body : List Stmt} {scope : Scope} {fd : FuncData} {N ps : List Str} {sp : Sp}
    (F : FunD K name qual params body scope [] [] f fd) (S : FnScope N ps scope) (len : ∀ vs H Q E, sp vs H Q E → vs.length = ps.length)
    (hbody : ∀ (cdv : Value) (A : Around) (outer : List Env) (s : Shared) (H : Hp) (vs : List V) (Q : VK) (E : XK), (A.deeper (envOfC qual scope s.heap.objs.size f cdv)).guards = some [] → Room k (A.deeper (envOfC qual scope s.heap.objs.size f cdv)) → sp vs H Q E →
      ∃ t, PSs (cxOf CX P w K mg base N qual scope f cdv A outer s H E) body t ∧ t { nx := fun _ H' => Q .non H', rt := Q } (start N vs) H) : FnG P w K mg base CX (k + 1) f fd ps sp := by
  obtain ⟨oc, od, dV, kV, doc, pm, an, cdv, ct, osl, rfl, lk, hcd, _, _⟩ := F.ex
  refine ⟨len, fun A outer s H args us vs Q E hg hr e0 hb r hsp => ?_⟩
  have hl := len _ _ _ _ hsp
  have kin : K.In s.heap := e0.mod.kin.keeps fun b o e => (e0.bs b o e).1
  have lim : s.heap.NoLimit := e0.mod.nolimit.keeps fun b o e => (e0.bs b o e).1
  have kinds : ∀ y ∈ ps.zip us, scope.names.lookup y.1 = some .local ∨ (scope.names.lookup y.1 = some .cell ∧ ((cellsFrom (s.heap.objs.size + 1) scope.names []).lookup y.1).isSome = true) := fun y hy =>
    (S.par y.1 (List.of_mem_zip hy).1).imp id fun q => ⟨q, PySem.W.cellsFrom_some _ _ _ (.inl q)⟩
  refine codeAny_call_function hr.depth (kin _ _ lk) rfl S.co S.gen rfl (PySem.W.codeRec_of kin hcd) (hb _ _ _ _ ?_)
  refine wpAny_newFunctionEnv_cells S.kind kinds fun env he s1 x => ?_
  subst he
  refine ⟨lim.keeps x.toInCall.keep, codeAny_func ?_⟩
  obtain ⟨t, ht, hq⟩ := hbody cdv A outer s H vs Q E hg (hr.deeper _) hsp
  have I := inv_start (CX := CX) (mg := mg) (f := f) (cd := cdv) (outer := outer) (E := E) S hr.hd e0 hl r x
  refine wpAny_mono (ht.run [] s1 (start N vs) H _ I hq) (fun fl s' hs => ?_) fun e s' hs => hs
  cases fl with
  | ret u =>
    obtain ⟨v, σ', H', J, rv, q⟩ := hs
    exact ⟨v, H', J.os, J.bare, J.base, J.hok, rv, q⟩
  | next =>
    obtain ⟨σ', H', J, q⟩ := hs
    exact ⟨.non, H', J.os, J.bare, J.base, J.hok, rfl, q⟩
  | brk =>
    obtain ⟨_, _, _, q⟩ := hs
    exact q.elim
  | cont =>
    obtain ⟨_, _, _, q⟩ := hs
    exact q.elim
/-- the heap in which the script stands, and nothing else that is followed -/
theorem start_heap (P : Program) (w : World) {K : PySem.W.Frag} {a : Addr} {s : Shared} {vs : List Value} {ns : List Int} (kin : K.In s.heap) (ha : s.heap.get? a = some { cls := .type "list", data := .seq vs.toArray }) (hi : IntsAre vs ns) (hl : ns.length ≤ sizeLine) :
    ∃ H : Hp, Only H ∧ SqL K H a (ns.map V.int) ∧ HOk P w H s.heap ∧ ∀ b, H b ≠ none → b = a ∧ K.lookup b = none := by
  have rv := vals_ints hi
  have hl2 : (ns.map V.int).length ≤ sizeLine := by rw [List.length_map]; exact hl
  cases hk : K.lookup a with
  | some o =>
    obtain rfl := Option.some.inj ((kin a o hk).symm.trans ha)
    exact ⟨fun _ => none, fun _ => .inl rfl, .inr ⟨_, vs.toArray, _, hk, rfl, rfl, rfl, by rw [List.size_toArray, hi.length]; exact hl, by simpa using rv⟩, (fun _ _ z => nomatch z), fun _ z => absurd rfl z⟩
  | none =>
    have none_ : ∀ b, b ≠ a → (fun b => if b = a then some (HO.frz { cls := .type "list", data := .seq vs.toArray } (.lst (ns.map V.int))) else none : Hp) b = none := fun b n => if_neg n
    have here : (fun b => if b = a then some (HO.frz { cls := .type "list", data := .seq vs.toArray } (.lst (ns.map V.int))) else none : Hp) a = some (HO.frz { cls := .type "list", data := .seq vs.toArray } (.lst (ns.map V.int))) := if_pos rfl
    generalize (fun b => if b = a then some (HO.frz { cls := .type "list", data := .seq vs.toArray } (.lst (ns.map V.int))) else none : Hp) = H at none_ here
    refine ⟨H, fun b => ?_, .inl (.inr ⟨_, here⟩), fun b u z => ?_, fun b z => ?_⟩
    · by_cases e : b = a
      · exact .inr ⟨_, _, e ▸ here⟩
      · exact .inl (none_ b e)
    · by_cases e : b = a
      · subst e
        obtain rfl := Option.some.inj (here.symm.trans z)
        exact ⟨ha, hl2, vs, _, rv, ha⟩
      · rw [none_ b e] at z; cases z
    · by_cases e : b = a
      · exact ⟨e, e ▸ hk⟩
      · exact absurd (none_ b e) z
theorem law_callG {P : Program} {w : World} {K : PySem.W.Frag} {mg mb : Str → Option Value} {k : Nat} {fa a : Addr} {fd : FuncData} {x : Str} {sp : Sp} {s : Shared} {vs : List Value} {ns : List Int}
    (kin : K.In s.heap) (hns : s.heap.Ns mainGlobals mg) (hb : s.heap.Ns builtinsNs mb) (hbb : ∀ x : Str, x ≠ "__name__" → mb x = bootBuiltins x) (hlim : s.heap.NoLimit) (hg : s.gens = #[])
    (ha : s.heap.get? a = some { cls := .type "list", data := .seq vs.toArray }) (hi : IntsAre vs ns) (hl : ns.length ≤ sizeLine) (hr : Room k callerA)
    (F : ∀ base : Heap, K.In base → base.Ns mainGlobals mg → FnG P w K mg base CX0 k fa fd [x] sp) (hbind : ∀ (s : Shared) (u : Value), BindsTo s fd ⟨[u], []⟩ [(x, u)])
    (hsp : ∀ H : Hp, SqL K H a (ns.map V.int) → sp [.ref a] H (fun v _ => v = .bl true) fun _ _ _ => False) :
    codeAny (model P w) callerA (.call (.ref fa) ⟨[.ref a], []⟩) (fun r s' => r = .ok (.ret (.bool true)) ∧ OldK s.heap s'.heap ∧ s'.os = s.os ∧ AllBare s'.gens) s := by
  obtain ⟨H, only, sq, hok, out⟩ := start_heap P w kin ha hi hl
  -- what is no list stays in sight
  have sight : ∀ {b : Addr} {o : Obj}, s.heap.get? b = some o → (∀ xs n, o.data ≠ .seq xs n) → (hidT s.heap H).get? b = some o := fun {b o} e d => by
    refine hidT_get e ?_
    cases q : H b with
    | none => rfl
    | some u =>
      obtain ⟨rfl, _⟩ := out b (by rw [q]; exact fun z => nomatch z)
      obtain rfl := Option.some.inj (e.symm.trans ha)
      exact absurd rfl (d _ _)
  have ns' : ∀ {b : Addr} {m : Str → Option Value}, s.heap.Ns b m → (hidT s.heap H).Ns b m := fun ⟨o, es, ep, e, d, r⟩ => ⟨o, es, ep, sight e (fun _ _ z => by rw [d] at z; cases z), d, r⟩
  have kin' : K.In (hidT s.heap H) := fun b o e => by
    refine hidT_get (kin b o e) ?_
    cases q : H b with
    | none => rfl
    | some u =>
      have z := (out b (by rw [q]; exact fun z => nomatch z)).2
      rw [e] at z
      cases z
  have e0 : Env0 P w K mg (hidT s.heap H) callerA [] s H :=
    ⟨rfl, ⟨kin', ns' hns, ⟨mb, ns' hb, hbb⟩, let ⟨mc, h1, h2⟩ := hlim; ⟨mc, ns' h1, h2⟩⟩, fun _ _ e => of_hidT e, Nat.le_of_eq (hidT_size _ _), trivial, (fun _ m => nomatch m), hok, .of_eq hg⟩
  refine codeAny_mono ((F _ kin' (ns' hns)).run callerA [] s H ⟨[.ref a], []⟩ [.ref a] [.ref a] _ _ rfl hr e0 (hbind s (.ref a)) (.cons rfl .nil) (hsp H sq)) fun r s' h => ?_
  match r, h with
  | .error _, h => exact h.elim
  | .ok .next, h => exact h.elim
  | .ok .brk, h => exact h.elim
  | .ok .cont, h => exact h.elim
  | .ok (.ret u), ⟨v, H', os, bare, un, hok', r', q⟩ =>
    obtain rfl : v = .bl true := q
    obtain rfl : u = Value.bool true := r'
    refine ⟨rfl, OldK.of_keep fun b o e => ?_, os, bare⟩
    cases q : H b with
    | none => exact un.keep b o e q (fun z => nomatch z) (by simp)
    | some u =>
      rcases only b with z | ⟨ob, xs, z⟩
      · rw [q] at z; cases z
      · obtain ⟨e1, _⟩ := hok b _ z
        obtain ⟨e2, _⟩ := hok' b _ (un.frzs b ob _ z)
        rw [e] at e1
        cases e1
        exact e2
theorem walk_ofG {l : PySem.W.OpenLaw} {n k : Nat} {q : Program} {loose : List Str} {XP : (Str → Option Value) → Heap → Prop} {YP : World → Heap → Prop} {d : DefRec} {x : Str}
    (hn : l.most = some n) (hn2 : n ≤ sizeLine) (hdf : d.params.defaults = []) (hr : Room k callerA)
    (F : ∀ (w : World) (mg : Str → Option Value) (fa : Addr) (h : Heap), YP w h → h.Ns mainGlobals mg → mg d.name = some (.ref fa) →
      ∃ (K : PySem.W.Frag) (fd : FuncData) (sp : Sp), K.In h ∧ (∀ (s : Shared) (u : Value), BindsTo s fd ⟨[u], []⟩ [(x, u)]) ∧
        (∀ (H : Hp) (a : Addr) (ns : List Int), SqL K H a (ns.map V.int) → sp [.ref a] H (fun v _ => v = .bl true) fun _ _ _ => False) ∧
        ∀ base : Heap, K.In base → base.Ns mainGlobals mg → FnG l.prog w K mg base CX0 k fa fd [x] sp) :
    PySem.W.WalkO q loose XP YP l.row.toRowW d [] (fun f vs => PySem.call f vs) :=
  Att.attach_call hn hdf fun w _ _ mg _ fa _ _ _ _ a _ ns G Y _ _ _ hmg hobj hints hlen hg => by
    obtain ⟨K, fd, sp, kin, hb, hsp, hF⟩ := F w mg fa _ Y G.T.g hmg
    exact law_callG kin G.T.g G.T.b G.T.builtins G.T.nolimit hg hobj hints (Nat.le_trans hlen hn2) hr hF hb fun H hS => hsp H a ns hS
end Wr
namespace Sw
open PySem PySem.Spec PyProof.Rows L2
/-! the text by places -/
def top (i : Nat) : Stmt := PySem.Challenge.pw_swornlots_k22_whole_day_shadow.main.body.getD i (.Pass ⟨0, 0, 0, 0⟩)
abbrev sis_integer : Stmt := top 7
abbrev sis_word : Stmt := top 12
abbrev sis_name : Stmt := top 13
abbrev sis_end : Stmt := top 15
abbrev sis_tie : Stmt := top 16
abbrev slots_in : Stmt := top 19
abbrev sTies__init__ : Stmt := inClass (top 21) 0
abbrev sTies__len__ : Stmt := inClass (top 21) 3
abbrev sTies__iter__ : Stmt := inClass (top 21) 4
abbrev sring_behind : Stmt := top 22
abbrev splaced_rows : Stmt := top 23
abbrev splaced : Stmt := top 24
abbrev sleast_ties : Stmt := top 26
abbrev sTable__init__ : Stmt := inClass (top 27) 0
abbrev sTable__iter__ : Stmt := inClass (top 27) 2
abbrev sTable__eq__ : Stmt := inClass (top 27) 4
abbrev sshadow_ties : Stmt := top 28
abbrev stie_follows : Stmt := top 29
abbrev slean_ties : Stmt := top 30
abbrev s_law_bag : Stmt := top 32
abbrev s_law_mixed : Stmt := top 33
abbrev s_law_draw : Stmt := top 34
abbrev s_law_pick : Stmt := top 35
abbrev s_law_some : Stmt := top 36
abbrev s_law_name : Stmt := top 37
abbrev s_law_names : Stmt := top 38
abbrev s_law_is_int : Stmt := top 39
abbrev s_law_ring : Stmt := top 40
abbrev s_law_p2_days : Stmt := top 41
abbrev s_law_p2_tie : Stmt := top 42
abbrev s_law_p2_chain : Stmt := top 43
abbrev s_law_p2_ties : Stmt := top 44
abbrev s_law_p2_lots : Stmt := top 45
abbrev s_law_p2_fits : Stmt := top 46
abbrev s_law_p2_read_days : Stmt := top 47
abbrev s_law_p2_least : Stmt := top 48
abbrev s_law_p2_rows : Stmt := top 49
abbrev s_law_p2_spread : Stmt := top 50
abbrev s_law_p2_chosen : Stmt := top 51
abbrev s_law_p2_goes_on : Stmt := top 52
abbrev s_law_p2_are_ties : Stmt := top 53
abbrev s_law_p2_shadow : Stmt := top 54
abbrev s_law_p2_reach : Stmt := top 55
abbrev s_law_p2_lean : Stmt := top 56
abbrev sLots : Stmt := inClass (top 21) 1
abbrev sLaw : Stmt := top 57
/-! each def as a datum -/
def dis_integer : He.DefD := ⟨("is_integer", none), "is_integer", "is_integer", defArgs sis_integer, defBody sis_integer, defScope sis_integer, [], []⟩
def dis_word : He.DefD := ⟨("is_word", none), "is_word", "is_word", defArgs sis_word, defBody sis_word, defScope sis_word, [], []⟩
def dis_name : He.DefD := ⟨("is_name", none), "is_name", "is_name", defArgs sis_name, defBody sis_name, defScope sis_name, [], []⟩
def dis_end : He.DefD := ⟨("is_end", none), "is_end", "is_end", defArgs sis_end, defBody sis_end, defScope sis_end, [], []⟩
def dis_tie : He.DefD := ⟨("is_tie", none), "is_tie", "is_tie", defArgs sis_tie, defBody sis_tie, defScope sis_tie, [], []⟩
def dlots_in : He.DefD := ⟨("lots_in", none), "lots_in", "lots_in", defArgs slots_in, defBody slots_in, defScope slots_in, [], []⟩
def dTies__init__ : He.DefD := ⟨("Ties", some "__init__"), "__init__", "Ties.__init__", defArgs sTies__init__, defBody sTies__init__, defScope sTies__init__, [], []⟩
def dTies__len__ : He.DefD := ⟨("Ties", some "__len__"), "__len__", "Ties.__len__", defArgs sTies__len__, defBody sTies__len__, defScope sTies__len__, [], []⟩
def dTies__iter__ : He.DefD := ⟨("Ties", some "__iter__"), "__iter__", "Ties.__iter__", defArgs sTies__iter__, defBody sTies__iter__, defScope sTies__iter__, [], []⟩
def dring_behind : He.DefD := ⟨("ring_behind", none), "ring_behind", "ring_behind", defArgs sring_behind, defBody sring_behind, defScope sring_behind, [], []⟩
def dplaced_rows : He.DefD := ⟨("placed_rows", none), "placed_rows", "placed_rows", defArgs splaced_rows, defBody splaced_rows, defScope splaced_rows, [], []⟩
def dplaced : He.DefD := ⟨("placed", none), "placed", "placed", defArgs splaced, defBody splaced, defScope splaced, [], []⟩
def dleast_ties : He.DefD := ⟨("least_ties", none), "least_ties", "least_ties", defArgs sleast_ties, defBody sleast_ties, defScope sleast_ties, [], []⟩
def dTable__init__ : He.DefD := ⟨("Table", some "__init__"), "__init__", "Table.__init__", defArgs sTable__init__, defBody sTable__init__, defScope sTable__init__, [], []⟩
def dTable__iter__ : He.DefD := ⟨("Table", some "__iter__"), "__iter__", "Table.__iter__", defArgs sTable__iter__, defBody sTable__iter__, defScope sTable__iter__, [], []⟩
def dTable__eq__ : He.DefD := ⟨("Table", some "__eq__"), "__eq__", "Table.__eq__", defArgs sTable__eq__, defBody sTable__eq__, defScope sTable__eq__, [], []⟩
def dshadow_ties : He.DefD := ⟨("shadow_ties", none), "shadow_ties", "shadow_ties", defArgs sshadow_ties, defBody sshadow_ties, defScope sshadow_ties, [], []⟩
def dtie_follows : He.DefD := ⟨("tie_follows", none), "tie_follows", "tie_follows", defArgs stie_follows, defBody stie_follows, defScope stie_follows, [], []⟩
def dlean_ties : He.DefD := ⟨("lean_ties", none), "lean_ties", "lean_ties", defArgs slean_ties, defBody slean_ties, defScope slean_ties, [], []⟩
def d_law_bag : He.DefD := ⟨("_law_bag", none), "_law_bag", "_law_bag", defArgs s_law_bag, defBody s_law_bag, defScope s_law_bag, [], []⟩
def d_law_mixed : He.DefD := ⟨("_law_mixed", none), "_law_mixed", "_law_mixed", defArgs s_law_mixed, defBody s_law_mixed, defScope s_law_mixed, [], []⟩
def d_law_draw : He.DefD := ⟨("_law_draw", none), "_law_draw", "_law_draw", defArgs s_law_draw, defBody s_law_draw, defScope s_law_draw, [], []⟩
def d_law_pick : He.DefD := ⟨("_law_pick", none), "_law_pick", "_law_pick", defArgs s_law_pick, defBody s_law_pick, defScope s_law_pick, [], []⟩
def d_law_some : He.DefD := ⟨("_law_some", none), "_law_some", "_law_some", defArgs s_law_some, defBody s_law_some, defScope s_law_some, [], []⟩
def d_law_name : He.DefD := ⟨("_law_name", none), "_law_name", "_law_name", defArgs s_law_name, defBody s_law_name, defScope s_law_name, [], []⟩
def d_law_names : He.DefD := ⟨("_law_names", none), "_law_names", "_law_names", defArgs s_law_names, defBody s_law_names, defScope s_law_names, [], []⟩
def d_law_is_int : He.DefD := ⟨("_law_is_int", none), "_law_is_int", "_law_is_int", defArgs s_law_is_int, defBody s_law_is_int, defScope s_law_is_int, [], []⟩
def d_law_ring : He.DefD := ⟨("_law_ring", none), "_law_ring", "_law_ring", defArgs s_law_ring, defBody s_law_ring, defScope s_law_ring, [], []⟩
def d_law_p2_days : He.DefD := ⟨("_law_p2_days", none), "_law_p2_days", "_law_p2_days", defArgs s_law_p2_days, defBody s_law_p2_days, defScope s_law_p2_days, [], []⟩
def d_law_p2_tie : He.DefD := ⟨("_law_p2_tie", none), "_law_p2_tie", "_law_p2_tie", defArgs s_law_p2_tie, defBody s_law_p2_tie, defScope s_law_p2_tie, [], []⟩
def d_law_p2_chain : He.DefD := ⟨("_law_p2_chain", none), "_law_p2_chain", "_law_p2_chain", defArgs s_law_p2_chain, defBody s_law_p2_chain, defScope s_law_p2_chain, [], []⟩
def d_law_p2_ties : He.DefD := ⟨("_law_p2_ties", none), "_law_p2_ties", "_law_p2_ties", defArgs s_law_p2_ties, defBody s_law_p2_ties, defScope s_law_p2_ties, [], []⟩
def d_law_p2_lots : He.DefD := ⟨("_law_p2_lots", none), "_law_p2_lots", "_law_p2_lots", defArgs s_law_p2_lots, defBody s_law_p2_lots, defScope s_law_p2_lots, [], []⟩
def d_law_p2_fits : He.DefD := ⟨("_law_p2_fits", none), "_law_p2_fits", "_law_p2_fits", defArgs s_law_p2_fits, defBody s_law_p2_fits, defScope s_law_p2_fits, [], []⟩
def d_law_p2_read_days : He.DefD := ⟨("_law_p2_read_days", none), "_law_p2_read_days", "_law_p2_read_days", defArgs s_law_p2_read_days, defBody s_law_p2_read_days, defScope s_law_p2_read_days, [], []⟩
def d_law_p2_least : He.DefD := ⟨("_law_p2_least", none), "_law_p2_least", "_law_p2_least", defArgs s_law_p2_least, defBody s_law_p2_least, defScope s_law_p2_least, [], []⟩
def d_law_p2_rows : He.DefD := ⟨("_law_p2_rows", none), "_law_p2_rows", "_law_p2_rows", defArgs s_law_p2_rows, defBody s_law_p2_rows, defScope s_law_p2_rows, [], []⟩
def d_law_p2_spread : He.DefD := ⟨("_law_p2_spread", none), "_law_p2_spread", "_law_p2_spread", defArgs s_law_p2_spread, defBody s_law_p2_spread, defScope s_law_p2_spread, [], []⟩
def d_law_p2_chosen : He.DefD := ⟨("_law_p2_chosen", none), "_law_p2_chosen", "_law_p2_chosen", defArgs s_law_p2_chosen, defBody s_law_p2_chosen, defScope s_law_p2_chosen, [], []⟩
def d_law_p2_goes_on : He.DefD := ⟨("_law_p2_goes_on", none), "_law_p2_goes_on", "_law_p2_goes_on", defArgs s_law_p2_goes_on, defBody s_law_p2_goes_on, defScope s_law_p2_goes_on, [], []⟩
def d_law_p2_are_ties : He.DefD := ⟨("_law_p2_are_ties", none), "_law_p2_are_ties", "_law_p2_are_ties", defArgs s_law_p2_are_ties, defBody s_law_p2_are_ties, defScope s_law_p2_are_ties, [], []⟩
def d_law_p2_shadow : He.DefD := ⟨("_law_p2_shadow", none), "_law_p2_shadow", "_law_p2_shadow", defArgs s_law_p2_shadow, defBody s_law_p2_shadow, defScope s_law_p2_shadow, [], []⟩
def d_law_p2_reach : He.DefD := ⟨("_law_p2_reach", none), "_law_p2_reach", "_law_p2_reach", defArgs s_law_p2_reach, defBody s_law_p2_reach, defScope s_law_p2_reach, [], []⟩
def d_law_p2_lean : He.DefD := ⟨("_law_p2_lean", none), "_law_p2_lean", "_law_p2_lean", defArgs s_law_p2_lean, defBody s_law_p2_lean, defScope s_law_p2_lean, [], []⟩
def dLaw : He.DefD := ⟨("law", none), "law", "law", defArgs sLaw, defBody sLaw, defScope sLaw, [], []⟩
def fnL : List He.DefD := [dis_integer, dis_word, dis_name, dis_end, dis_tie, dlots_in, dTies__init__, dTies__len__, dTies__iter__, dring_behind, dplaced_rows, dplaced, dleast_ties, dTable__init__, dTable__iter__, dTable__eq__, dshadow_ties, dtie_follows, dlean_ties, d_law_bag, d_law_mixed, d_law_draw, d_law_pick, d_law_some, d_law_name, d_law_names, d_law_is_int, d_law_ring, d_law_p2_days, d_law_p2_tie, d_law_p2_chain, d_law_p2_ties, d_law_p2_lots, d_law_p2_fits, d_law_p2_read_days, d_law_p2_least, d_law_p2_rows, d_law_p2_spread, d_law_p2_chosen, d_law_p2_goes_on, d_law_p2_are_ties, d_law_p2_shadow, d_law_p2_reach, d_law_p2_lean, dLaw]
def faL : List He.Fa := [.glo "is_integer", .glo "is_word", .glo "is_name", .glo "is_end", .glo "is_tie", .glo "lots_in", .glo "ring_behind", .glo "placed_rows", .glo "placed", .glo "least_ties", .glo "shadow_ties", .glo "tie_follows", .glo "lean_ties", .glo "_law_bag", .glo "_law_mixed", .glo "_law_draw", .glo "_law_pick", .glo "_law_some", .glo "_law_name", .glo "_law_names", .glo "_law_is_int", .glo "_law_ring", .glo "_law_p2_days", .glo "_law_p2_tie", .glo "_law_p2_chain", .glo "_law_p2_ties", .glo "_law_p2_lots", .glo "_law_p2_fits", .glo "_law_p2_read_days", .glo "_law_p2_least", .glo "_law_p2_rows", .glo "_law_p2_spread", .glo "_law_p2_chosen", .glo "_law_p2_goes_on", .glo "_law_p2_are_ties", .glo "_law_p2_shadow", .glo "_law_p2_reach", .glo "_law_p2_lean", .glo "law", .glo "Ties", .glo "Table", .glo "RESERVED", .free "isinstance", .free "int", .free "bool", .free "str", .free "len", .free "all", .free "tuple", .free "sorted", .free "enumerate", .free "range", .free "min", .free "list", .free "iter", .free "sum", .free "abs", .free "zip", .free "max", .free "repr", .str "LETTERS" "abcdefghijklmnopqrstuvwxyz", .str "SIGNS" "abcdefghijklmnopqrstuvwxyz0123456789", .int "MOST_TIES" 200, .cls "Ties", .noat "Ties" "rows", .mkr "Ties", .cls "Table", .noat "Table" "_names", .noat "Table" "_least", .noat "Table" "_ties", .mkr "Table", .meth "Ties" "__iter__", .meth "Ties" "__len__", .meth "Table" "__iter__", .meth "Table" "__eq__"]
def resW : List Str := ["and", "or", "not", "free", "untouched", "least", "most", "of", "since", "until", "single", "recipe", "take", "move", "drain", "wash", "pack", "repeat", "when", "else", "end", "done", "yes", "no", "none"]
/-! the property, and one more look -/
def propP (K : PySem.W.Frag) : Addr := He.ma K (He.ga K "Ties") "lots"
def propG (K : PySem.W.Frag) : Addr := match PySem.W.recIn K (propP K) "property" with
  | some (.ref g :: _) => g
  | _ => 0
def fnWA (K : PySem.W.Frag) (f : Addr) : He.FnW := match K.lookup f with
  | some ⟨_, _, .func fd, _⟩ => some (fd.name, fd.qualname, fd.params, fd.body, fd.scope, fd.globals, fd.closure, fd.builtins)
  | _ => none
def okA (K : PySem.W.Frag) (f : Addr) (q : Str) : Bool := PySem.W.keepIn K (.ref f) && (match K.lookup f with
  | some ⟨_, _, .func fd, _⟩ => PySem.W.codeIn K fd.code q && (He.dflB K fd.defaults [] && He.kwdB K fd.kwdefaults [])
  | _ => false)
theorem funA {K : PySem.W.Frag} {f : Addr} {n q : Str} {a : Arguments} {b : List Stmt} {sc : Scope} (e : fnWA K f = some (n, q, a, .stmts b, sc, mainGlobals, [], builtinsNs)) (c : okA K f q = true) : ∃ fd, FunD K n q a b sc [] [] f fd := by
  obtain ⟨kp, c2⟩ := He.ba c
  unfold fnWA at e
  cases lk : K.lookup f with
  | none =>
    rw [lk] at c2
    cases c2
  | some o =>
    obtain ⟨oc, od, dt, osl⟩ := o
    rw [lk] at c2 e
    cases dt with
    | func fd =>
      obtain ⟨m1, m2, m3, m4, m5, m6, m7, m8, m9, m10, m11, m12, m13, m14, m15⟩ := fd
      have e2 : (some (m1, m2, m3, m4, m5, m6, m7, m15) : He.FnW) = some (n, q, a, .stmts b, sc, mainGlobals, [], builtinsNs) := e
      simp only [Option.some.injEq, Prod.mk.injEq] at e2
      obtain ⟨h1, h2, h3, h4, h5, h6, h7, h8⟩ := e2
      subst h1 h2 h3 h4 h5 h6 h7 h8
      have c3 : (PySem.W.codeIn K m13 m2 && (He.dflB K m8 [] && He.kwdB K m9 [])) = true := c2
      obtain ⟨k1, k2⟩ := He.ba c3
      obtain ⟨k3, k4⟩ := He.ba k2
      exact ⟨_, ⟨oc, od, m8, m9, m10, m11, m12, m13, m14, osl, rfl, lk, k1, He.dflB_ok k3, He.kwdB_ok k4⟩, kp⟩
    | _ => cases c2
def exB (K : PySem.W.Frag) : Bool :=
  He.eqO (PySem.W.findIn K (.ref (He.ga K "Ties")) "lots") (some (some (.ref (propP K)))) &&
  (He.eqO (PySem.W.specialIn K (.ref (propP K)) "__get__") (some (some (.builtin "property.__get__"))) &&
  (decide (PySem.W.takesIn K (.ref (propP K)) = some true) &&
  ((match PySem.W.recIn K (propP K) "property" with
    | some (.ref _ :: _) => true
    | _ => false) &&
  (okA K (propG K) "Ties.lots" &&
  (He.eqO (PySem.W.findIn K (.ref (He.ga K "Ties")) "__length_hint__") (some none) &&
  (He.eqO (PySem.W.findIn K (.ref (He.ga K "Ties")) "__next__") (some none) &&
  (He.tupB K "RESERVED" (resW.map He.Dv.str) &&
  (He.eqO (PySem.W.findIn K (.ref (He.ga K "Table")) "__class__") (some (some (.builtin "object.__class__"))) &&
  (He.eqO (PySem.W.specialIn K (.builtin "object.__class__") "__get__") (some (some (.builtin "getset_descriptor.__get__"))) &&
  (decide (PySem.W.takesIn K (.builtin "object.__class__") = some true) &&
  decide (PySem.W.mroIn K (He.ga K "Table") (.type "object") = some true)))))))))))
abbrev AlW : Type := He.AlD × He.FnW × Bool
def obsW (K : PySem.W.Frag) : AlW := (He.obsD faL fnL K, fnWA K (propG K), exB K)
def valW : AlW := (He.valD fnL, some ("lots", "Ties.lots", defArgs sLots, .stmts (defBody sLots), defScope sLots, mainGlobals, [], builtinsNs), true)
def SaysW (K : PySem.W.Frag) : Prop := obsW K = valW
def obsWG (n : Nat) (g : Addr → Option Obj) : AlW := obsW (He.frG g (He.asD g n))
def hookW (n : Nat) : PySem.W.Hook where
  α := AlW
  obs := fun s => obsWG n s.heap.get?
  val := fun _ => valW
  says := fun _ h => ∃ K : PySem.W.Frag, K.In h ∧ SaysW K
  of := fun _ _ e => ⟨_, He.frG_in, e⟩
  keeps := fun _ _ _ ⟨K, hK, c⟩ k => ⟨K, PySem.W.Frag.In.keeps hK k, c⟩
abbrev Rw : PySem.W.OpenRow := PySem.W.OpenLaw.row PySem.Challenge.rw_swornlots_k22_whole_day_shadow
def ob (n : Nat) (s : PySem.W.SharedT) : AlW := obsWG n (HandSHeadRun.getT s)
theorem ob_eq (n : Nat) (s : PySem.W.SharedT) : ob n s = (hookW n).obs s.abs := by
  have e : HandSHeadRun.getT s = s.abs.heap.get? := funext fun a => HandSHeadRun.getT_eq s a
  show obsWG n (HandSHeadRun.getT s) = obsWG n s.abs.heap.get?
  rw [e]
def loose1 : List Str := ["LotError", "TooMany", "BadTie", "NoDays", "NoLot", "is_integer", "RESERVED", "LETTERS", "SIGNS", "is_word", "is_name", "ascending", "is_end", "is_tie", "MOST_TIES", "lots_in", "is_days", "Ties", "ring_behind", "placed_rows", "placed", "least_ties", "Table", "shadow_ties", "tie_follows", "lean_ties", "_law_bag", "_law_mixed", "_law_draw", "_law_pick"]
def loose2 : List Str := ["_law_some", "_law_name", "_law_names", "_law_is_int", "_law_ring", "_law_p2_days", "_law_p2_tie", "_law_p2_chain", "_law_p2_ties", "_law_p2_lots", "_law_p2_fits", "_law_p2_read_days", "_law_p2_least", "_law_p2_rows", "_law_p2_spread", "_law_p2_chosen", "_law_p2_goes_on", "_law_p2_are_ties", "_law_p2_shadow", "_law_p2_reach", "_law_p2_lean"]
def looseW : List Str := loose1 ++ loose2
theorem run (w : World) : HandSHeadRun.RunEq Rw (PySem.W.view Rw.prog [57]) (hookW 7) (ob 7) 20000 looseW w := by
  intro os
  kernel_rfl
end Sw
namespace Sw
open PySem PySem.Spec PyProof.Rows L2
abbrev slaw : PySem.Stmt := sLaw
/-! what the top has left -/
structure Tp (K : PySem.W.Frag) (mg : Str → Option Value) where
  m_isinstance : mg "isinstance" = none
  m_int : mg "int" = none
  m_bool : mg "bool" = none
  m_str : mg "str" = none
  m_len : mg "len" = none
  m_all : mg "all" = none
  m_tuple : mg "tuple" = none
  m_sorted : mg "sorted" = none
  m_enumerate : mg "enumerate" = none
  m_range : mg "range" = none
  m_min : mg "min" = none
  m_list : mg "list" = none
  m_iter : mg "iter" = none
  m_sum : mg "sum" = none
  m_abs : mg "abs" = none
  m_zip : mg "zip" = none
  m_max : mg "max" = none
  m_repr : mg "repr" = none
  a_is_integer : Addr
  d_is_integer : FuncData
  F_is_integer : FunD K "is_integer" "is_integer" (defArgs sis_integer) (defBody sis_integer) (defScope sis_integer) [] [] a_is_integer d_is_integer
  a_is_word : Addr
  d_is_word : FuncData
  F_is_word : FunD K "is_word" "is_word" (defArgs sis_word) (defBody sis_word) (defScope sis_word) [] [] a_is_word d_is_word
  a_is_name : Addr
  d_is_name : FuncData
  F_is_name : FunD K "is_name" "is_name" (defArgs sis_name) (defBody sis_name) (defScope sis_name) [] [] a_is_name d_is_name
  a_is_end : Addr
  d_is_end : FuncData
  F_is_end : FunD K "is_end" "is_end" (defArgs sis_end) (defBody sis_end) (defScope sis_end) [] [] a_is_end d_is_end
  a_is_tie : Addr
  d_is_tie : FuncData
  F_is_tie : FunD K "is_tie" "is_tie" (defArgs sis_tie) (defBody sis_tie) (defScope sis_tie) [] [] a_is_tie d_is_tie
  a_lots_in : Addr
  d_lots_in : FuncData
  F_lots_in : FunD K "lots_in" "lots_in" (defArgs slots_in) (defBody slots_in) (defScope slots_in) [] [] a_lots_in d_lots_in
  a_Ties__init__ : Addr
  d_Ties__init__ : FuncData
  F_Ties__init__ : FunD K "__init__" "Ties.__init__" (defArgs sTies__init__) (defBody sTies__init__) (defScope sTies__init__) [] [] a_Ties__init__ d_Ties__init__
  a_Ties__len__ : Addr
  d_Ties__len__ : FuncData
  F_Ties__len__ : FunD K "__len__" "Ties.__len__" (defArgs sTies__len__) (defBody sTies__len__) (defScope sTies__len__) [] [] a_Ties__len__ d_Ties__len__
  a_Ties__iter__ : Addr
  d_Ties__iter__ : FuncData
  F_Ties__iter__ : FunD K "__iter__" "Ties.__iter__" (defArgs sTies__iter__) (defBody sTies__iter__) (defScope sTies__iter__) [] [] a_Ties__iter__ d_Ties__iter__
  a_ring_behind : Addr
  d_ring_behind : FuncData
  F_ring_behind : FunD K "ring_behind" "ring_behind" (defArgs sring_behind) (defBody sring_behind) (defScope sring_behind) [] [] a_ring_behind d_ring_behind
  a_placed_rows : Addr
  d_placed_rows : FuncData
  F_placed_rows : FunD K "placed_rows" "placed_rows" (defArgs splaced_rows) (defBody splaced_rows) (defScope splaced_rows) [] [] a_placed_rows d_placed_rows
  a_placed : Addr
  d_placed : FuncData
  F_placed : FunD K "placed" "placed" (defArgs splaced) (defBody splaced) (defScope splaced) [] [] a_placed d_placed
  a_least_ties : Addr
  d_least_ties : FuncData
  F_least_ties : FunD K "least_ties" "least_ties" (defArgs sleast_ties) (defBody sleast_ties) (defScope sleast_ties) [] [] a_least_ties d_least_ties
  a_Table__init__ : Addr
  d_Table__init__ : FuncData
  F_Table__init__ : FunD K "__init__" "Table.__init__" (defArgs sTable__init__) (defBody sTable__init__) (defScope sTable__init__) [] [] a_Table__init__ d_Table__init__
  a_Table__iter__ : Addr
  d_Table__iter__ : FuncData
  F_Table__iter__ : FunD K "__iter__" "Table.__iter__" (defArgs sTable__iter__) (defBody sTable__iter__) (defScope sTable__iter__) [] [] a_Table__iter__ d_Table__iter__
  a_Table__eq__ : Addr
  d_Table__eq__ : FuncData
  F_Table__eq__ : FunD K "__eq__" "Table.__eq__" (defArgs sTable__eq__) (defBody sTable__eq__) (defScope sTable__eq__) [] [] a_Table__eq__ d_Table__eq__
  a_shadow_ties : Addr
  d_shadow_ties : FuncData
  F_shadow_ties : FunD K "shadow_ties" "shadow_ties" (defArgs sshadow_ties) (defBody sshadow_ties) (defScope sshadow_ties) [] [] a_shadow_ties d_shadow_ties
  a_tie_follows : Addr
  d_tie_follows : FuncData
  F_tie_follows : FunD K "tie_follows" "tie_follows" (defArgs stie_follows) (defBody stie_follows) (defScope stie_follows) [] [] a_tie_follows d_tie_follows
  a_lean_ties : Addr
  d_lean_ties : FuncData
  F_lean_ties : FunD K "lean_ties" "lean_ties" (defArgs slean_ties) (defBody slean_ties) (defScope slean_ties) [] [] a_lean_ties d_lean_ties
  a__law_bag : Addr
  d__law_bag : FuncData
  F__law_bag : FunD K "_law_bag" "_law_bag" (defArgs s_law_bag) (defBody s_law_bag) (defScope s_law_bag) [] [] a__law_bag d__law_bag
  a__law_mixed : Addr
  d__law_mixed : FuncData
  F__law_mixed : FunD K "_law_mixed" "_law_mixed" (defArgs s_law_mixed) (defBody s_law_mixed) (defScope s_law_mixed) [] [] a__law_mixed d__law_mixed
  a__law_draw : Addr
  d__law_draw : FuncData
  F__law_draw : FunD K "_law_draw" "_law_draw" (defArgs s_law_draw) (defBody s_law_draw) (defScope s_law_draw) [] [] a__law_draw d__law_draw
  a__law_pick : Addr
  d__law_pick : FuncData
  F__law_pick : FunD K "_law_pick" "_law_pick" (defArgs s_law_pick) (defBody s_law_pick) (defScope s_law_pick) [] [] a__law_pick d__law_pick
  a__law_some : Addr
  d__law_some : FuncData
  F__law_some : FunD K "_law_some" "_law_some" (defArgs s_law_some) (defBody s_law_some) (defScope s_law_some) [] [] a__law_some d__law_some
  a__law_name : Addr
  d__law_name : FuncData
  F__law_name : FunD K "_law_name" "_law_name" (defArgs s_law_name) (defBody s_law_name) (defScope s_law_name) [] [] a__law_name d__law_name
  a__law_names : Addr
  d__law_names : FuncData
  F__law_names : FunD K "_law_names" "_law_names" (defArgs s_law_names) (defBody s_law_names) (defScope s_law_names) [] [] a__law_names d__law_names
  a__law_is_int : Addr
  d__law_is_int : FuncData
  F__law_is_int : FunD K "_law_is_int" "_law_is_int" (defArgs s_law_is_int) (defBody s_law_is_int) (defScope s_law_is_int) [] [] a__law_is_int d__law_is_int
  a__law_ring : Addr
  d__law_ring : FuncData
  F__law_ring : FunD K "_law_ring" "_law_ring" (defArgs s_law_ring) (defBody s_law_ring) (defScope s_law_ring) [] [] a__law_ring d__law_ring
  a__law_p2_days : Addr
  d__law_p2_days : FuncData
  F__law_p2_days : FunD K "_law_p2_days" "_law_p2_days" (defArgs s_law_p2_days) (defBody s_law_p2_days) (defScope s_law_p2_days) [] [] a__law_p2_days d__law_p2_days
  a__law_p2_tie : Addr
  d__law_p2_tie : FuncData
  F__law_p2_tie : FunD K "_law_p2_tie" "_law_p2_tie" (defArgs s_law_p2_tie) (defBody s_law_p2_tie) (defScope s_law_p2_tie) [] [] a__law_p2_tie d__law_p2_tie
  a__law_p2_chain : Addr
  d__law_p2_chain : FuncData
  F__law_p2_chain : FunD K "_law_p2_chain" "_law_p2_chain" (defArgs s_law_p2_chain) (defBody s_law_p2_chain) (defScope s_law_p2_chain) [] [] a__law_p2_chain d__law_p2_chain
  a__law_p2_ties : Addr
  d__law_p2_ties : FuncData
  F__law_p2_ties : FunD K "_law_p2_ties" "_law_p2_ties" (defArgs s_law_p2_ties) (defBody s_law_p2_ties) (defScope s_law_p2_ties) [] [] a__law_p2_ties d__law_p2_ties
  a__law_p2_lots : Addr
  d__law_p2_lots : FuncData
  F__law_p2_lots : FunD K "_law_p2_lots" "_law_p2_lots" (defArgs s_law_p2_lots) (defBody s_law_p2_lots) (defScope s_law_p2_lots) [] [] a__law_p2_lots d__law_p2_lots
  a__law_p2_fits : Addr
  d__law_p2_fits : FuncData
  F__law_p2_fits : FunD K "_law_p2_fits" "_law_p2_fits" (defArgs s_law_p2_fits) (defBody s_law_p2_fits) (defScope s_law_p2_fits) [] [] a__law_p2_fits d__law_p2_fits
  a__law_p2_read_days : Addr
  d__law_p2_read_days : FuncData
  F__law_p2_read_days : FunD K "_law_p2_read_days" "_law_p2_read_days" (defArgs s_law_p2_read_days) (defBody s_law_p2_read_days) (defScope s_law_p2_read_days) [] [] a__law_p2_read_days d__law_p2_read_days
  a__law_p2_least : Addr
  d__law_p2_least : FuncData
  F__law_p2_least : FunD K "_law_p2_least" "_law_p2_least" (defArgs s_law_p2_least) (defBody s_law_p2_least) (defScope s_law_p2_least) [] [] a__law_p2_least d__law_p2_least
  a__law_p2_rows : Addr
  d__law_p2_rows : FuncData
  F__law_p2_rows : FunD K "_law_p2_rows" "_law_p2_rows" (defArgs s_law_p2_rows) (defBody s_law_p2_rows) (defScope s_law_p2_rows) [] [] a__law_p2_rows d__law_p2_rows
  a__law_p2_spread : Addr
  d__law_p2_spread : FuncData
  F__law_p2_spread : FunD K "_law_p2_spread" "_law_p2_spread" (defArgs s_law_p2_spread) (defBody s_law_p2_spread) (defScope s_law_p2_spread) [] [] a__law_p2_spread d__law_p2_spread
  a__law_p2_chosen : Addr
  d__law_p2_chosen : FuncData
  F__law_p2_chosen : FunD K "_law_p2_chosen" "_law_p2_chosen" (defArgs s_law_p2_chosen) (defBody s_law_p2_chosen) (defScope s_law_p2_chosen) [] [] a__law_p2_chosen d__law_p2_chosen
  a__law_p2_goes_on : Addr
  d__law_p2_goes_on : FuncData
  F__law_p2_goes_on : FunD K "_law_p2_goes_on" "_law_p2_goes_on" (defArgs s_law_p2_goes_on) (defBody s_law_p2_goes_on) (defScope s_law_p2_goes_on) [] [] a__law_p2_goes_on d__law_p2_goes_on
  a__law_p2_are_ties : Addr
  d__law_p2_are_ties : FuncData
  F__law_p2_are_ties : FunD K "_law_p2_are_ties" "_law_p2_are_ties" (defArgs s_law_p2_are_ties) (defBody s_law_p2_are_ties) (defScope s_law_p2_are_ties) [] [] a__law_p2_are_ties d__law_p2_are_ties
  a__law_p2_shadow : Addr
  d__law_p2_shadow : FuncData
  F__law_p2_shadow : FunD K "_law_p2_shadow" "_law_p2_shadow" (defArgs s_law_p2_shadow) (defBody s_law_p2_shadow) (defScope s_law_p2_shadow) [] [] a__law_p2_shadow d__law_p2_shadow
  a__law_p2_reach : Addr
  d__law_p2_reach : FuncData
  F__law_p2_reach : FunD K "_law_p2_reach" "_law_p2_reach" (defArgs s_law_p2_reach) (defBody s_law_p2_reach) (defScope s_law_p2_reach) [] [] a__law_p2_reach d__law_p2_reach
  a__law_p2_lean : Addr
  d__law_p2_lean : FuncData
  F__law_p2_lean : FunD K "_law_p2_lean" "_law_p2_lean" (defArgs s_law_p2_lean) (defBody s_law_p2_lean) (defScope s_law_p2_lean) [] [] a__law_p2_lean d__law_p2_lean
  a_law : Addr
  d_law : FuncData
  F_law : FunD K "law" "law" (defArgs slaw) (defBody slaw) (defScope slaw) [] [] a_law d_law
  g_is_integer : mg "is_integer" = some (.ref a_is_integer)
  g_is_word : mg "is_word" = some (.ref a_is_word)
  g_is_name : mg "is_name" = some (.ref a_is_name)
  g_is_end : mg "is_end" = some (.ref a_is_end)
  g_is_tie : mg "is_tie" = some (.ref a_is_tie)
  g_lots_in : mg "lots_in" = some (.ref a_lots_in)
  g_ring_behind : mg "ring_behind" = some (.ref a_ring_behind)
  g_placed_rows : mg "placed_rows" = some (.ref a_placed_rows)
  g_placed : mg "placed" = some (.ref a_placed)
  g_least_ties : mg "least_ties" = some (.ref a_least_ties)
  g_shadow_ties : mg "shadow_ties" = some (.ref a_shadow_ties)
  g_tie_follows : mg "tie_follows" = some (.ref a_tie_follows)
  g_lean_ties : mg "lean_ties" = some (.ref a_lean_ties)
  g__law_bag : mg "_law_bag" = some (.ref a__law_bag)
  g__law_mixed : mg "_law_mixed" = some (.ref a__law_mixed)
  g__law_draw : mg "_law_draw" = some (.ref a__law_draw)
  g__law_pick : mg "_law_pick" = some (.ref a__law_pick)
  g__law_some : mg "_law_some" = some (.ref a__law_some)
  g__law_name : mg "_law_name" = some (.ref a__law_name)
  g__law_names : mg "_law_names" = some (.ref a__law_names)
  g__law_is_int : mg "_law_is_int" = some (.ref a__law_is_int)
  g__law_ring : mg "_law_ring" = some (.ref a__law_ring)
  g__law_p2_days : mg "_law_p2_days" = some (.ref a__law_p2_days)
  g__law_p2_tie : mg "_law_p2_tie" = some (.ref a__law_p2_tie)
  g__law_p2_chain : mg "_law_p2_chain" = some (.ref a__law_p2_chain)
  g__law_p2_ties : mg "_law_p2_ties" = some (.ref a__law_p2_ties)
  g__law_p2_lots : mg "_law_p2_lots" = some (.ref a__law_p2_lots)
  g__law_p2_fits : mg "_law_p2_fits" = some (.ref a__law_p2_fits)
  g__law_p2_read_days : mg "_law_p2_read_days" = some (.ref a__law_p2_read_days)
  g__law_p2_least : mg "_law_p2_least" = some (.ref a__law_p2_least)
  g__law_p2_rows : mg "_law_p2_rows" = some (.ref a__law_p2_rows)
  g__law_p2_spread : mg "_law_p2_spread" = some (.ref a__law_p2_spread)
  g__law_p2_chosen : mg "_law_p2_chosen" = some (.ref a__law_p2_chosen)
  g__law_p2_goes_on : mg "_law_p2_goes_on" = some (.ref a__law_p2_goes_on)
  g__law_p2_are_ties : mg "_law_p2_are_ties" = some (.ref a__law_p2_are_ties)
  g__law_p2_shadow : mg "_law_p2_shadow" = some (.ref a__law_p2_shadow)
  g__law_p2_reach : mg "_law_p2_reach" = some (.ref a__law_p2_reach)
  g__law_p2_lean : mg "_law_p2_lean" = some (.ref a__law_p2_lean)
  g_law : mg "law" = some (.ref a_law)
  a_Ties : Addr
  a_Table : Addr
  g_Ties : mg "Ties" = some (.ref a_Ties)
  g_Table : mg "Table" = some (.ref a_Table)
  cl_Ties : Cls K a_Ties
  cl_Table : Cls K a_Table
  na_rows : NoAttr K a_Ties "rows"
  na__names : NoAttr K a_Table "_names"
  na__least : NoAttr K a_Table "_least"
  na__ties : NoAttr K a_Table "_ties"
  mk_Ties : Mk K a_Ties a_Ties__init__
  mk_Table : Mk K a_Table a_Table__init__
  it_Ties : PySem.W.findIn K (.ref a_Ties) "__iter__" = some (some (.ref a_Ties__iter__))
  if_Ties : PySem.W.isFn K (.ref a_Ties__iter__) = true
  ln_Ties : PySem.W.findIn K (.ref a_Ties) "__len__" = some (some (.ref a_Ties__len__))
  lf_Ties : PySem.W.isFn K (.ref a_Ties__len__) = true
  it_Table : PySem.W.findIn K (.ref a_Table) "__iter__" = some (some (.ref a_Table__iter__))
  if_Table : PySem.W.isFn K (.ref a_Table__iter__) = true
  eq_Table : PySem.W.findIn K (.ref a_Table) "__eq__" = some (some (.ref a_Table__eq__))
  ef_Table : PySem.W.isFn K (.ref a_Table__eq__) = true
  tc1 : PySem.W.findIn K (.ref a_Table) "__class__" = some (some (.builtin "object.__class__"))
  tc2 : PySem.W.specialIn K (.builtin "object.__class__") "__get__" = some (some (.builtin "getset_descriptor.__get__"))
  tc3 : PySem.W.takesIn K (.builtin "object.__class__") = some true
  tc4 : PySem.W.mroIn K a_Table (.type "object") = some true
  a_lots : Addr
  a_Tieslots : Addr
  d_Tieslots : FuncData
  F_Tieslots : FunD K "lots" "Ties.lots" (defArgs sLots) (defBody sLots) (defScope sLots) [] [] a_Tieslots d_Tieslots
  pr_lots : PropOf K a_Ties "lots" a_lots a_Tieslots
  a_RESERVED : Addr
  c_RESERVED : mg "RESERVED" = some (.ref a_RESERVED)
  t_RESERVED : ∀ H : Hp, SqT K H a_RESERVED (resW.map V.str)
  k_LETTERS : Tok
  c_LETTERS : mg "LETTERS" = some (.str "abcdefghijklmnopqrstuvwxyz" k_LETTERS)
  k_SIGNS : Tok
  c_SIGNS : mg "SIGNS" = some (.str "abcdefghijklmnopqrstuvwxyz0123456789" k_SIGNS)
  k_MOST_TIES : Tok
  c_MOST_TIES : mg "MOST_TIES" = some (.int 200 k_MOST_TIES)

abbrev Nis_integer : List Str := ["thing"]
theorem scis_integer : FnScope Nis_integer ["thing"] (defScope sis_integer) := ⟨rfl, rfl, rfl, by decide +kernel, rfl, by decide +kernel, by decide +kernel⟩
theorem b_is_integer {K : PySem.W.Frag} {mg : Str → Option Value} (T : Tp K mg) : Binds K T.d_is_integer ["thing"] [] := T.F_is_integer.bindsN fun _ _ _ _ _ _ us hl => match us, hl with | [_], _ => rfl
abbrev Nis_word : List Str := ["thing", "most", "sign"]
theorem scis_word : FnScope Nis_word ["thing", "most"] (defScope sis_word) := ⟨rfl, rfl, rfl, by decide +kernel, rfl, by decide +kernel, by decide +kernel⟩
theorem b_is_word {K : PySem.W.Frag} {mg : Str → Option Value} (T : Tp K mg) : Binds K T.d_is_word ["thing", "most"] [] := T.F_is_word.bindsN fun _ _ _ _ _ _ us hl => match us, hl with | [_, _], _ => rfl
abbrev Nis_name : List Str := ["thing"]
theorem scis_name : FnScope Nis_name ["thing"] (defScope sis_name) := ⟨rfl, rfl, rfl, by decide +kernel, rfl, by decide +kernel, by decide +kernel⟩
theorem b_is_name {K : PySem.W.Frag} {mg : Str → Option Value} (T : Tp K mg) : Binds K T.d_is_name ["thing"] [] := T.F_is_name.bindsN fun _ _ _ _ _ _ us hl => match us, hl with | [_], _ => rfl
abbrev Nis_end : List Str := ["thing"]
theorem scis_end : FnScope Nis_end ["thing"] (defScope sis_end) := ⟨rfl, rfl, rfl, by decide +kernel, rfl, by decide +kernel, by decide +kernel⟩
theorem b_is_end {K : PySem.W.Frag} {mg : Str → Option Value} (T : Tp K mg) : Binds K T.d_is_end ["thing"] [] := T.F_is_end.bindsN fun _ _ _ _ _ _ us hl => match us, hl with | [_], _ => rfl
abbrev Nis_tie : List Str := ["thing"]
theorem scis_tie : FnScope Nis_tie ["thing"] (defScope sis_tie) := ⟨rfl, rfl, rfl, by decide +kernel, rfl, by decide +kernel, by decide +kernel⟩
theorem b_is_tie {K : PySem.W.Frag} {mg : Str → Option Value} (T : Tp K mg) : Binds K T.d_is_tie ["thing"] [] := T.F_is_tie.bindsN fun _ _ _ _ _ _ us hl => match us, hl with | [_], _ => rfl
abbrev Nlots_in : List Str := ["rows", "row", "name"]
theorem sclots_in : FnScope Nlots_in ["rows"] (defScope slots_in) := ⟨rfl, rfl, rfl, by decide +kernel, rfl, by decide +kernel, by decide +kernel⟩
theorem b_lots_in {K : PySem.W.Frag} {mg : Str → Option Value} (T : Tp K mg) : Binds K T.d_lots_in ["rows"] [] := T.F_lots_in.bindsN fun _ _ _ _ _ _ us hl => match us, hl with | [_], _ => rfl
abbrev NTies__init__ : List Str := ["self", "rows", "number", "row"]
theorem scTies__init__ : FnScope NTies__init__ ["self", "rows"] (defScope sTies__init__) := ⟨rfl, rfl, rfl, by decide +kernel, rfl, by decide +kernel, by decide +kernel⟩
theorem b_Ties__init__ {K : PySem.W.Frag} {mg : Str → Option Value} (T : Tp K mg) : Binds K T.d_Ties__init__ ["self", "rows"] [] := T.F_Ties__init__.bindsN fun _ _ _ _ _ _ us hl => match us, hl with | [_, _], _ => rfl
abbrev NTies__len__ : List Str := ["self"]
theorem scTies__len__ : FnScope NTies__len__ ["self"] (defScope sTies__len__) := ⟨rfl, rfl, rfl, by decide +kernel, rfl, by decide +kernel, by decide +kernel⟩
theorem b_Ties__len__ {K : PySem.W.Frag} {mg : Str → Option Value} (T : Tp K mg) : Binds K T.d_Ties__len__ ["self"] [] := T.F_Ties__len__.bindsN fun _ _ _ _ _ _ us hl => match us, hl with | [_], _ => rfl
abbrev NTies__iter__ : List Str := ["self"]
theorem scTies__iter__ : FnScope NTies__iter__ ["self"] (defScope sTies__iter__) := ⟨rfl, rfl, rfl, by decide +kernel, rfl, by decide +kernel, by decide +kernel⟩
theorem b_Ties__iter__ {K : PySem.W.Frag} {mg : Str → Option Value} (T : Tp K mg) : Binds K T.d_Ties__iter__ ["self"] [] := T.F_Ties__iter__.bindsN fun _ _ _ _ _ _ us hl => match us, hl with | [_], _ => rfl
abbrev Nring_behind : List Str := ["rows", "came", "name", "many", "turn", "ring", "start"]
theorem scring_behind : FnScope Nring_behind ["rows", "came", "name", "many"] (defScope sring_behind) := ⟨rfl, rfl, rfl, by decide +kernel, rfl, by decide +kernel, by decide +kernel⟩
theorem b_ring_behind {K : PySem.W.Frag} {mg : Str → Option Value} (T : Tp K mg) : Binds K T.d_ring_behind ["rows", "came", "name", "many"] [] := T.F_ring_behind.bindsN fun _ _ _ _ _ _ us hl => match us, hl with | [_, _, _, _], _ => rfl
abbrev Nplaced_rows : List Str := ["rows", "lots", "when", "name", "came", "moved", "turn", "number", "row", "tied", "lot"]
theorem scplaced_rows : FnScope Nplaced_rows ["rows", "lots"] (defScope splaced_rows) := ⟨rfl, rfl, rfl, by decide +kernel, rfl, by decide +kernel, by decide +kernel⟩
theorem b_placed_rows {K : PySem.W.Frag} {mg : Str → Option Value} (T : Tp K mg) : Binds K T.d_placed_rows ["rows", "lots"] [] := T.F_placed_rows.bindsN fun _ _ _ _ _ _ us hl => match us, hl with | [_, _], _ => rfl
abbrev Nplaced : List Str := ["ties"]
theorem scplaced : FnScope Nplaced ["ties"] (defScope splaced) := ⟨rfl, rfl, rfl, by decide +kernel, rfl, by decide +kernel, by decide +kernel⟩
theorem b_placed {K : PySem.W.Frag} {mg : Str → Option Value} (T : Tp K mg) : Binds K T.d_placed ["ties"] [] := T.F_placed.bindsN fun _ _ _ _ _ _ us hl => match us, hl with | [_], _ => rfl
abbrev Nleast_ties : List Str := ["rows", "names", "least", "name", "first", "second", "n", "middle"]
theorem scleast_ties : FnScope Nleast_ties ["rows", "names"] (defScope sleast_ties) := ⟨rfl, rfl, rfl, by decide +kernel, rfl, by decide +kernel, by decide +kernel⟩
theorem b_least_ties {K : PySem.W.Frag} {mg : Str → Option Value} (T : Tp K mg) : Binds K T.d_least_ties ["rows", "names"] [] := T.F_least_ties.bindsN fun _ _ _ _ _ _ us hl => match us, hl with | [_, _], _ => rfl
abbrev NTable__init__ : List Str := ["self", "ties", "told", "found", "first", "second"]
theorem scTable__init__ : FnScope NTable__init__ ["self", "ties"] (defScope sTable__init__) := ⟨rfl, rfl, rfl, by decide +kernel, rfl, by decide +kernel, by decide +kernel⟩
theorem b_Table__init__ {K : PySem.W.Frag} {mg : Str → Option Value} (T : Tp K mg) : Binds K T.d_Table__init__ ["self", "ties"] [] := T.F_Table__init__.bindsN fun _ _ _ _ _ _ us hl => match us, hl with | [_, _], _ => rfl
abbrev NTable__iter__ : List Str := ["self"]
theorem scTable__iter__ : FnScope NTable__iter__ ["self"] (defScope sTable__iter__) := ⟨rfl, rfl, rfl, by decide +kernel, rfl, by decide +kernel, by decide +kernel⟩
theorem b_Table__iter__ {K : PySem.W.Frag} {mg : Str → Option Value} (T : Tp K mg) : Binds K T.d_Table__iter__ ["self"] [] := T.F_Table__iter__.bindsN fun _ _ _ _ _ _ us hl => match us, hl with | [_], _ => rfl
abbrev NTable__eq__ : List Str := ["self", "other"]
theorem scTable__eq__ : FnScope NTable__eq__ ["self", "other"] (defScope sTable__eq__) := ⟨rfl, rfl, rfl, by decide +kernel, rfl, by decide +kernel, by decide +kernel⟩
theorem b_Table__eq__ {K : PySem.W.Frag} {mg : Str → Option Value} (T : Tp K mg) : Binds K T.d_Table__eq__ ["self", "other"] [] := T.F_Table__eq__.bindsN fun _ _ _ _ _ _ us hl => match us, hl with | [_, _], _ => rfl
abbrev Nshadow_ties : List Str := ["ties", "lots", "names", "row"]
theorem scshadow_ties : FnScope Nshadow_ties ["ties", "lots"] (defScope sshadow_ties) := ⟨rfl, rfl, rfl, by decide +kernel, rfl, by decide +kernel, by decide +kernel⟩
theorem b_shadow_ties {K : PySem.W.Frag} {mg : Str → Option Value} (T : Tp K mg) : Binds K T.d_shadow_ties ["ties", "lots"] [] := T.F_shadow_ties.bindsN fun _ _ _ _ _ _ us hl => match us, hl with | [_, _], _ => rfl
abbrev Ntie_follows : List Str := ["rows", "tie", "reach", "grown", "first", "second", "n"]
theorem sctie_follows : FnScope Ntie_follows ["rows", "tie"] (defScope stie_follows) := ⟨rfl, rfl, rfl, by decide +kernel, rfl, by decide +kernel, by decide +kernel⟩
theorem b_tie_follows {K : PySem.W.Frag} {mg : Str → Option Value} (T : Tp K mg) : Binds K T.d_tie_follows ["rows", "tie"] [] := T.F_tie_follows.bindsN fun _ _ _ _ _ _ us hl => match us, hl with | [_, _], _ => rfl
abbrev Nlean_ties : List Str := ["ties", "told", "left", "place", "others"]
theorem sclean_ties : FnScope Nlean_ties ["ties"] (defScope slean_ties) := ⟨rfl, rfl, rfl, by decide +kernel, rfl, by decide +kernel, by decide +kernel⟩
theorem b_lean_ties {K : PySem.W.Frag} {mg : Str → Option Value} (T : Tp K mg) : Binds K T.d_lean_ties ["ties"] [] := T.F_lean_ties.bindsN fun _ _ _ _ _ _ us hl => match us, hl with | [_], _ => rfl
abbrev N_law_bag : List Str := ["_law_script"]
theorem sc_law_bag : FnScope N_law_bag ["_law_script"] (defScope s_law_bag) := ⟨rfl, rfl, rfl, by decide +kernel, rfl, by decide +kernel, by decide +kernel⟩
theorem b__law_bag {K : PySem.W.Frag} {mg : Str → Option Value} (T : Tp K mg) : Binds K T.d__law_bag ["_law_script"] [] := T.F__law_bag.bindsN fun _ _ _ _ _ _ us hl => match us, hl with | [_], _ => rfl
abbrev N_law_mixed : List Str := ["_law_seed", "_law_turn", "_law_first"]
theorem sc_law_mixed : FnScope N_law_mixed ["_law_seed", "_law_turn"] (defScope s_law_mixed) := ⟨rfl, rfl, rfl, by decide +kernel, rfl, by decide +kernel, by decide +kernel⟩
theorem b__law_mixed {K : PySem.W.Frag} {mg : Str → Option Value} (T : Tp K mg) : Binds K T.d__law_mixed ["_law_seed", "_law_turn"] [] := T.F__law_mixed.bindsN fun _ _ _ _ _ _ us hl => match us, hl with | [_, _], _ => rfl
abbrev N_law_draw : List Str := ["_law_bag_here", "_law_many", "_law_cell", "_law_value"]
theorem sc_law_draw : FnScope N_law_draw ["_law_bag_here", "_law_many"] (defScope s_law_draw) := ⟨rfl, rfl, rfl, by decide +kernel, rfl, by decide +kernel, by decide +kernel⟩
theorem b__law_draw {K : PySem.W.Frag} {mg : Str → Option Value} (T : Tp K mg) : Binds K T.d__law_draw ["_law_bag_here", "_law_many"] [] := T.F__law_draw.bindsN fun _ _ _ _ _ _ us hl => match us, hl with | [_, _], _ => rfl
abbrev N_law_pick : List Str := ["_law_bag_here", "_law_row"]
theorem sc_law_pick : FnScope N_law_pick ["_law_bag_here", "_law_row"] (defScope s_law_pick) := ⟨rfl, rfl, rfl, by decide +kernel, rfl, by decide +kernel, by decide +kernel⟩
theorem b__law_pick {K : PySem.W.Frag} {mg : Str → Option Value} (T : Tp K mg) : Binds K T.d__law_pick ["_law_bag_here", "_law_row"] [] := T.F__law_pick.bindsN fun _ _ _ _ _ _ us hl => match us, hl with | [_, _], _ => rfl
abbrev N_law_some : List Str := ["_law_bag_here", "_law_row", "_law_floor", "_law_found", "_law_thing"]
theorem sc_law_some : FnScope N_law_some ["_law_bag_here", "_law_row", "_law_floor"] (defScope s_law_some) := ⟨rfl, rfl, rfl, by decide +kernel, rfl, by decide +kernel, by decide +kernel⟩
theorem b__law_some {K : PySem.W.Frag} {mg : Str → Option Value} (T : Tp K mg) : Binds K T.d__law_some ["_law_bag_here", "_law_row", "_law_floor"] [] := T.F__law_some.bindsN fun _ _ _ _ _ _ us hl => match us, hl with | [_, _, _], _ => rfl
abbrev N_law_name : List Str := ["_law_bag_here", "_law_taken", "_law_signs", "_law_name_here", "_law_k", "_law_words", "_law_spare"]
theorem sc_law_name : FnScope N_law_name ["_law_bag_here", "_law_taken"] (defScope s_law_name) := ⟨rfl, rfl, rfl, by decide +kernel, rfl, by decide +kernel, by decide +kernel⟩
theorem b__law_name {K : PySem.W.Frag} {mg : Str → Option Value} (T : Tp K mg) : Binds K T.d__law_name ["_law_bag_here", "_law_taken"] [] := T.F__law_name.bindsN fun _ _ _ _ _ _ us hl => match us, hl with | [_, _], _ => rfl
abbrev N_law_names : List Str := ["_law_bag_here", "_law_many", "_law_taken", "_law_found", "_law_k"]
theorem sc_law_names : FnScope N_law_names ["_law_bag_here", "_law_many", "_law_taken"] (defScope s_law_names) := ⟨rfl, rfl, rfl, by decide +kernel, rfl, by decide +kernel, by decide +kernel⟩
theorem b__law_names {K : PySem.W.Frag} {mg : Str → Option Value} (T : Tp K mg) : Binds K T.d__law_names ["_law_bag_here", "_law_many", "_law_taken"] [] := T.F__law_names.bindsN fun _ _ _ _ _ _ us hl => match us, hl with | [_, _, _], _ => rfl
abbrev N_law_is_int : List Str := ["_law_thing"]
theorem sc_law_is_int : FnScope N_law_is_int ["_law_thing"] (defScope s_law_is_int) := ⟨rfl, rfl, rfl, by decide +kernel, rfl, by decide +kernel, by decide +kernel⟩
theorem b__law_is_int {K : PySem.W.Frag} {mg : Str → Option Value} (T : Tp K mg) : Binds K T.d__law_is_int ["_law_thing"] [] := T.F__law_is_int.bindsN fun _ _ _ _ _ _ us hl => match us, hl with | [_], _ => rfl
abbrev N_law_ring : List Str := ["_law_ties", "_law_ring_here", "_law_k", "_law_whole", "_law_tie"]
theorem sc_law_ring : FnScope N_law_ring ["_law_ties", "_law_ring_here"] (defScope s_law_ring) := ⟨rfl, rfl, rfl, by decide +kernel, rfl, by decide +kernel, by decide +kernel⟩
theorem b__law_ring {K : PySem.W.Frag} {mg : Str → Option Value} (T : Tp K mg) : Binds K T.d__law_ring ["_law_ties", "_law_ring_here"] [] := T.F__law_ring.bindsN fun _ _ _ _ _ _ us hl => match us, hl with | [_, _], _ => rfl
abbrev N_law_p2_days : List Str := ["_law_bag_here", "_law_lots", "_law_scale", "_law_found", "_law_lot"]
theorem sc_law_p2_days : FnScope N_law_p2_days ["_law_bag_here", "_law_lots"] (defScope s_law_p2_days) := ⟨rfl, rfl, rfl, by decide +kernel, rfl, by decide +kernel, by decide +kernel⟩
theorem b__law_p2_days {K : PySem.W.Frag} {mg : Str → Option Value} (T : Tp K mg) : Binds K T.d__law_p2_days ["_law_bag_here", "_law_lots"] [] := T.F__law_p2_days.bindsN fun _ _ _ _ _ _ us hl => match us, hl with | [_, _], _ => rfl
abbrev N_law_p2_tie : List Str := ["_law_bag_here", "_law_days", "_law_slack", "_law_first", "_law_second", "_law_name_here"]
theorem sc_law_p2_tie : FnScope N_law_p2_tie ["_law_bag_here", "_law_days", "_law_slack"] (defScope s_law_p2_tie) := ⟨rfl, rfl, rfl, by decide +kernel, rfl, by decide +kernel, by decide +kernel⟩
theorem b__law_p2_tie {K : PySem.W.Frag} {mg : Str → Option Value} (T : Tp K mg) : Binds K T.d__law_p2_tie ["_law_bag_here", "_law_days", "_law_slack"] [] := T.F__law_p2_tie.bindsN fun _ _ _ _ _ _ us hl => match us, hl with | [_, _, _], _ => rfl
abbrev N_law_p2_chain : List Str := ["_law_bag_here", "_law_days", "_law_left", "_law_name_here", "_law_found", "_law_k", "_law_one", "_law_second"]
theorem sc_law_p2_chain : FnScope N_law_p2_chain ["_law_bag_here", "_law_days"] (defScope s_law_p2_chain) := ⟨rfl, rfl, rfl, by decide +kernel, rfl, by decide +kernel, by decide +kernel⟩
theorem b__law_p2_chain {K : PySem.W.Frag} {mg : Str → Option Value} (T : Tp K mg) : Binds K T.d__law_p2_chain ["_law_bag_here", "_law_days"] [] := T.F__law_p2_chain.bindsN fun _ _ _ _ _ _ us hl => match us, hl with | [_, _], _ => rfl
abbrev N_law_p2_ties : List Str := ["_law_bag_here", "_law_days", "_law_many", "_law_found", "_law_k", "_law_sides", "_law_lot", "_law_at"]
theorem sc_law_p2_ties : FnScope N_law_p2_ties ["_law_bag_here", "_law_days", "_law_many"] (defScope s_law_p2_ties) := ⟨rfl, rfl, rfl, by decide +kernel, rfl, by decide +kernel, by decide +kernel⟩
theorem b__law_p2_ties {K : PySem.W.Frag} {mg : Str → Option Value} (T : Tp K mg) : Binds K T.d__law_p2_ties ["_law_bag_here", "_law_days", "_law_many"] [] := T.F__law_p2_ties.bindsN fun _ _ _ _ _ _ us hl => match us, hl with | [_, _, _], _ => rfl
abbrev N_law_p2_lots : List Str := ["_law_ties", "_law_found", "_law_tie", "_law_name_here"]
theorem sc_law_p2_lots : FnScope N_law_p2_lots ["_law_ties"] (defScope s_law_p2_lots) := ⟨rfl, rfl, rfl, by decide +kernel, rfl, by decide +kernel, by decide +kernel⟩
theorem b__law_p2_lots {K : PySem.W.Frag} {mg : Str → Option Value} (T : Tp K mg) : Binds K T.d__law_p2_lots ["_law_ties"] [] := T.F__law_p2_lots.bindsN fun _ _ _ _ _ _ us hl => match us, hl with | [_], _ => rfl
abbrev N_law_p2_fits : List Str := ["_law_ties", "_law_days", "_law_tie"]
theorem sc_law_p2_fits : FnScope N_law_p2_fits ["_law_ties", "_law_days"] (defScope s_law_p2_fits) := ⟨rfl, rfl, rfl, by decide +kernel, rfl, by decide +kernel, by decide +kernel⟩
theorem b__law_p2_fits {K : PySem.W.Frag} {mg : Str → Option Value} (T : Tp K mg) : Binds K T.d__law_p2_fits ["_law_ties", "_law_days"] [] := T.F__law_p2_fits.bindsN fun _ _ _ _ _ _ us hl => match us, hl with | [_, _], _ => rfl
abbrev N_law_p2_read_days : List Str := ["_law_thing", "_law_lots", "_law_found", "_law_pair", "_law_lot"]
theorem sc_law_p2_read_days : FnScope N_law_p2_read_days ["_law_thing", "_law_lots"] (defScope s_law_p2_read_days) := ⟨rfl, rfl, rfl, by decide +kernel, rfl, by decide +kernel, by decide +kernel⟩
theorem b__law_p2_read_days {K : PySem.W.Frag} {mg : Str → Option Value} (T : Tp K mg) : Binds K T.d__law_p2_read_days ["_law_thing", "_law_lots"] [] := T.F__law_p2_read_days.bindsN fun _ _ _ _ _ _ us hl => match us, hl with | [_, _], _ => rfl
abbrev N_law_p2_least : List Str := ["_law_ties", "_law_names_here", "_law_found", "_law_name_here", "_law_turn", "_law_tie", "_law_n"]
theorem sc_law_p2_least : FnScope N_law_p2_least ["_law_ties", "_law_names_here"] (defScope s_law_p2_least) := ⟨rfl, rfl, rfl, by decide +kernel, rfl, by decide +kernel, by decide +kernel⟩
theorem b__law_p2_least {K : PySem.W.Frag} {mg : Str → Option Value} (T : Tp K mg) : Binds K T.d__law_p2_least ["_law_ties", "_law_names_here"] [] := T.F__law_p2_least.bindsN fun _ _ _ _ _ _ us hl => match us, hl with | [_, _], _ => rfl
abbrev N_law_p2_rows : List Str := ["_law_found", "_law_names_here", "_law_due", "_law_name_here", "_law_second"]
theorem sc_law_p2_rows : FnScope N_law_p2_rows ["_law_found", "_law_names_here"] (defScope s_law_p2_rows) := ⟨rfl, rfl, rfl, by decide +kernel, rfl, by decide +kernel, by decide +kernel⟩
theorem b__law_p2_rows {K : PySem.W.Frag} {mg : Str → Option Value} (T : Tp K mg) : Binds K T.d__law_p2_rows ["_law_found", "_law_names_here"] [] := T.F__law_p2_rows.bindsN fun _ _ _ _ _ _ us hl => match us, hl with | [_, _], _ => rfl
abbrev N_law_p2_spread : List Str := ["_law_bag_here", "_law_days", "_law_many", "_law_found", "_law_k", "_law_tie", "_law_at"]
theorem sc_law_p2_spread : FnScope N_law_p2_spread ["_law_bag_here", "_law_days", "_law_many"] (defScope s_law_p2_spread) := ⟨rfl, rfl, rfl, by decide +kernel, rfl, by decide +kernel, by decide +kernel⟩
theorem b__law_p2_spread {K : PySem.W.Frag} {mg : Str → Option Value} (T : Tp K mg) : Binds K T.d__law_p2_spread ["_law_bag_here", "_law_days", "_law_many"] [] := T.F__law_p2_spread.bindsN fun _ _ _ _ _ _ us hl => match us, hl with | [_, _, _], _ => rfl
abbrev N_law_p2_chosen : List Str := ["_law_bag_here", "_law_ties", "_law_wanted", "_law_days", "_law_names_here", "_law_found", "_law_chosen", "_law_lot", "_law_upper", "_law_lower", "_law_name_here", "_law_way", "_law_day"]
theorem sc_law_p2_chosen : FnScope N_law_p2_chosen ["_law_bag_here", "_law_ties", "_law_wanted", "_law_days"] (defScope s_law_p2_chosen) := ⟨rfl, rfl, rfl, by decide +kernel, rfl, by decide +kernel, by decide +kernel⟩
theorem b__law_p2_chosen {K : PySem.W.Frag} {mg : Str → Option Value} (T : Tp K mg) : Binds K T.d__law_p2_chosen ["_law_bag_here", "_law_ties", "_law_wanted", "_law_days"] [] := T.F__law_p2_chosen.bindsN fun _ _ _ _ _ _ us hl => match us, hl with | [_, _, _, _], _ => rfl
abbrev N_law_p2_goes_on : List Str := ["_law_due", "_law_told", "_law_chosen", "_law_wanted", "_law_pinned", "_law_lot", "_law_paper", "_law_days"]
theorem sc_law_p2_goes_on : FnScope N_law_p2_goes_on ["_law_due", "_law_told", "_law_chosen", "_law_wanted"] (defScope s_law_p2_goes_on) := ⟨rfl, rfl, rfl, by decide +kernel, rfl, by decide +kernel, by decide +kernel⟩
theorem b__law_p2_goes_on {K : PySem.W.Frag} {mg : Str → Option Value} (T : Tp K mg) : Binds K T.d__law_p2_goes_on ["_law_due", "_law_told", "_law_chosen", "_law_wanted"] [] := T.F__law_p2_goes_on.bindsN fun _ _ _ _ _ _ us hl => match us, hl with | [_, _, _, _], _ => rfl
abbrev N_law_p2_are_ties : List Str := ["_law_thing", "_law_row", "_law_words"]
theorem sc_law_p2_are_ties : FnScope N_law_p2_are_ties ["_law_thing"] (defScope s_law_p2_are_ties) := ⟨rfl, rfl, rfl, by decide +kernel, rfl, by decide +kernel, by decide +kernel⟩
theorem b__law_p2_are_ties {K : PySem.W.Frag} {mg : Str → Option Value} (T : Tp K mg) : Binds K T.d__law_p2_are_ties ["_law_thing"] [] := T.F__law_p2_are_ties.bindsN fun _ _ _ _ _ _ us hl => match us, hl with | [_], _ => rfl
abbrev N_law_p2_shadow : List Str := ["_law_bag_here", "_law_box", "_law_due", "_law_wanted", "_law_hidden", "_law_told", "_law_names_here", "_law_every", "_law_row", "_law_kept", "_law_turn"]
theorem sc_law_p2_shadow : FnScope N_law_p2_shadow ["_law_bag_here", "_law_box", "_law_due", "_law_wanted", "_law_hidden"] (defScope s_law_p2_shadow) := ⟨rfl, rfl, rfl, by decide +kernel, rfl, by decide +kernel, by decide +kernel⟩
theorem b__law_p2_shadow {K : PySem.W.Frag} {mg : Str → Option Value} (T : Tp K mg) : Binds K T.d__law_p2_shadow ["_law_bag_here", "_law_box", "_law_due", "_law_wanted", "_law_hidden"] [] := T.F__law_p2_shadow.bindsN fun _ _ _ _ _ _ us hl => match us, hl with | [_, _, _, _, _], _ => rfl
abbrev N_law_p2_reach : List Str := ["_law_ties", "_law_start", "_law_found", "_law_turn", "_law_fell", "_law_tie", "_law_n"]
theorem sc_law_p2_reach : FnScope N_law_p2_reach ["_law_ties", "_law_start"] (defScope s_law_p2_reach) := ⟨rfl, rfl, rfl, by decide +kernel, rfl, by decide +kernel, by decide +kernel⟩
theorem b__law_p2_reach {K : PySem.W.Frag} {mg : Str → Option Value} (T : Tp K mg) : Binds K T.d__law_p2_reach ["_law_ties", "_law_start"] [] := T.F__law_p2_reach.bindsN fun _ _ _ _ _ _ us hl => match us, hl with | [_, _], _ => rfl
abbrev N_law_p2_lean : List Str := ["_law_box", "_law_due", "_law_told", "_law_left", "_law_at", "_law_tie", "_law_others", "_law_reach"]
theorem sc_law_p2_lean : FnScope N_law_p2_lean ["_law_box", "_law_due"] (defScope s_law_p2_lean) := ⟨rfl, rfl, rfl, by decide +kernel, rfl, by decide +kernel, by decide +kernel⟩
theorem b__law_p2_lean {K : PySem.W.Frag} {mg : Str → Option Value} (T : Tp K mg) : Binds K T.d__law_p2_lean ["_law_box", "_law_due"] [] := T.F__law_p2_lean.bindsN fun _ _ _ _ _ _ us hl => match us, hl with | [_, _], _ => rfl
abbrev Nlaw : List Str := ["_law_script", "_law_bag_here", "_law_hidden", "_law_first", "_law_second", "_law_lots", "_law_strange", "_law_box", "_law_other", "_law_wanted", "_law_before"]
theorem sclaw : FnScope Nlaw ["_law_script"] (defScope slaw) := ⟨rfl, rfl, rfl, by decide +kernel, rfl, by decide +kernel, by decide +kernel⟩
theorem b_law {K : PySem.W.Frag} {mg : Str → Option Value} (T : Tp K mg) : Binds K T.d_law ["_law_script"] [] := T.F_law.bindsN fun _ _ _ _ _ _ us hl => match us, hl with | [_], _ => rfl
abbrev NTieslots : List Str := ["self"]
theorem scTieslots : FnScope NTieslots ["self"] (defScope sLots) := ⟨rfl, rfl, rfl, by decide +kernel, rfl, by decide +kernel, by decide +kernel⟩
theorem b_Tieslots {K : PySem.W.Frag} {mg : Str → Option Value} (T : Tp K mg) : Binds K T.d_Tieslots ["self"] [] := T.F_Tieslots.bindsN fun _ _ _ _ _ _ us hl => match us, hl with | [_], _ => rfl
end Sw
namespace Sw
open PySem PySem.Spec PyProof.Rows L2 Wr WM
/-! ties, names, dicts as they stand in the heap -/
abbrev Tie := Str × Str × Int
def tieO (t : Tie) : HO := .tup [.str t.1, .str t.2.1, .int t.2.2]
abbrev TL := List (Addr × Tie)
def TiesIn (H : Hp) (L : TL) : Prop := ∀ q ∈ L, H q.1 = some (tieO q.2)
def rf (L : TL) : List V := L.map fun q => V.ref q.1
def tv (L : TL) : List Tie := L.map (·.2)
theorem rf_len (L : TL) : (rf L).length = L.length := List.length_map _
theorem tv_len (L : TL) : (tv L).length = L.length := List.length_map _
theorem rf_app (L M : TL) : rf (L ++ M) = rf L ++ rf M := List.map_append
theorem tv_app (L M : TL) : tv (L ++ M) = tv L ++ tv M := List.map_append
theorem rf_at {L : TL} {i : Nat} {x : V} (h : (rf L)[i]? = some x) : ∃ q, L[i]? = some q ∧ x = .ref q.1 := by
  unfold rf at h
  rw [List.getElem?_map] at h
  cases e : L[i]? with
  | none => rw [e] at h; cases h
  | some q => rw [e] at h; exact ⟨q, rfl, (Option.some.inj h).symm⟩
theorem at_rf {L : TL} {i : Nat} {q : Addr × Tie} (h : L[i]? = some q) : (rf L)[i]? = some (.ref q.1) := by
  unfold rf
  rw [List.getElem?_map, h]
  rfl
theorem at_tv {L : TL} {i : Nat} {q : Addr × Tie} (h : L[i]? = some q) : (tv L)[i]? = some q.2 := by
  unfold tv
  rw [List.getElem?_map, h]
  rfl
theorem TiesIn.mono {H H' : Hp} {L : TL} (h : TiesIn H L) (e : Same H H') : TiesIn H' L := fun q m => e _ _ (h q m)
theorem TiesIn.sub {H : Hp} {L M : TL} (h : TiesIn H L) (s : ∀ q ∈ M, q ∈ L) : TiesIn H M := fun q m => h q (s q m)
theorem TiesIn.app {H : Hp} {L M : TL} (h : TiesIn H L) (k : TiesIn H M) : TiesIn H (L ++ M) := fun q m => (List.mem_append.mp m).elim (h q) (k q)
theorem TiesIn.nil {H : Hp} : TiesIn H [] := fun _ m => nomatch m
theorem TiesIn.one {H : Hp} {p : Addr} {t : Tie} (h : H p = some (tieO t)) : TiesIn H [(p, t)] := fun q m => by
  rw [List.mem_singleton.mp m]
  exact h
theorem TiesIn.at_ {H : Hp} {L : TL} (h : TiesIn H L) {i : Nat} {q : Addr × Tie} (e : L[i]? = some q) : H q.1 = some (tieO q.2) := h q (List.mem_of_getElem? e)
theorem mem_tv {L : TL} {t : Tie} (h : t ∈ tv L) : ∃ q ∈ L, q.2 = t := List.mem_map.mp h
theorem sq_l {K : PySem.W.Frag} {H : Hp} {a : Addr} {xs : List V} (h : H a = some (.lst xs)) : SqL K H a xs := .inl (.inl h)
theorem sq_t {K : PySem.W.Frag} {H : Hp} {a : Addr} {xs : List V} (h : H a = some (.tup xs)) : SqT K H a xs := .inl (.inl h)
theorem Same.tup {K : PySem.W.Frag} {H H' : Hp} {a : Addr} {xs : List V} (e : Same H H') (h : SqT K H a xs) : SqT K H' a xs := by
  rcases h with (h | ⟨o, h⟩) | h
  · exact .inl (.inl (e _ _ h))
  · exact .inl (.inr ⟨o, e _ _ h⟩)
  · exact .inr h
theorem same_new {H : Hp} {p : Addr} {o : HO} (h : H p = none) : Same H (upd H p o) := fun a u e => by
  rw [upd_ne (ne_of_none e h)]
  exact e
/-- an object that H does not know may change -/
theorem same_mut {H H' : Hp} {p : Addr} {o : HO} (e : Same H H') (h : H p = none) : Same H (upd H' p o) := fun a u ha => by
  rw [upd_ne (ne_of_none ha h)]
  exact e a u ha
theorem small {n : Nat} (h : n ≤ 100000) : n ≤ sizeLine := Nat.le_trans h (by decide)
theorem small' {n : Nat} (h : n < 100000) : n < sizeLine := Nat.lt_of_lt_of_le h (by decide)
theorem hu_D {A : Around} {k : Nat} (hr : Room k A) : A.units + 64 < cLine := hr.units
/-! tables: names with numbers -/
section
variable {κ α : Type} [DecidableEq κ] [DecidableEq α]
def kvs (k : α → κ) (N : List α) (f : α → Int) : List (κ × V) := N.map fun x => (k x, V.int (f x))
def tb (N : List α) (f : α → Int) : α → Option Int := fun x => if x ∈ N then some (f x) else none
def addN (N : List α) (x : α) : List α := if x ∈ N then N else N ++ [x]
def setF (f : α → Int) (x : α) (v : Int) : α → Int := fun y => if y = x then v else f y
theorem kvs_len (k : α → κ) (N : List α) (f : α → Int) : (kvs k N f).length = N.length := List.length_map _
theorem kvs_val {k : α → κ} (inj : ∀ x y, k x = k y → x = y) (f : α → Int) (x : α) : ∀ N : List α, valV (kvs k N f) (k x) = (tb N f x).map V.int
  | [] => rfl
  | y :: N => by
    have ih := kvs_val inj f x N
    unfold valV kvs at ih ⊢
    rw [List.map_cons, List.find?_cons]
    by_cases e : y = x
    · subst e
      have : decide (k y = k y) = true := decide_eq_true rfl
      rw [this]
      unfold tb
      rw [if_pos List.mem_cons_self]
      rfl
    · have ne : decide (k y = k x) = false := decide_eq_false fun z => e (inj _ _ z)
      dsimp only
      rw [ne]
      dsimp only
      rw [ih]
      unfold tb
      by_cases m : x ∈ N
      · rw [if_pos m, if_pos (List.mem_cons_of_mem _ m)]
      · rw [if_neg m, if_neg fun z => (List.mem_cons.mp z).elim (fun q => e q.symm) m]
theorem kvs_put {k : α → κ} (inj : ∀ x y, k x = k y → x = y) (N : List α) (f : α → Int) (x : α) (v : Int) : putK (kvs k N f) (k x) (.int v) = kvs k (addN N x) (setF f x v) := by
  unfold putK addN
  by_cases m : x ∈ N
  · have a : ((kvs k N f).any fun kv => decide (kv.1 = k x)) = true := List.any_eq_true.mpr ⟨(k x, V.int (f x)), List.mem_map.mpr ⟨x, m, rfl⟩, decide_eq_true rfl⟩
    rw [if_pos a, if_pos m]
    unfold kvs
    rw [List.map_map]
    refine List.map_congr_left fun y my => ?_
    show (if k y = k x then (k y, V.int v) else (k y, V.int (f y))) = (k y, V.int (setF f x v y))
    by_cases e : y = x
    · rw [if_pos (by rw [e])]
      unfold setF
      rw [if_pos e]
    · rw [if_neg fun z => e (inj _ _ z)]
      unfold setF
      rw [if_neg e]
  · have a : ¬ ((kvs k N f).any fun kv => decide (kv.1 = k x)) = true := fun z => by
      obtain ⟨p, mp, hp⟩ := List.any_eq_true.mp z
      obtain ⟨y, my, rfl⟩ := List.mem_map.mp mp
      have e := inj _ _ (of_decide_eq_true hp)
      exact m (e ▸ my)
    rw [if_neg a, if_neg m]
    unfold kvs
    rw [List.map_append]
    have e1 : N.map (fun x => (k x, V.int (f x))) = N.map fun y => (k y, V.int (setF f x v y)) := List.map_congr_left fun y my => by
      show (k y, V.int (f y)) = (k y, V.int (if y = x then v else f y))
      rw [if_neg fun (z : y = x) => m (z ▸ my)]
    rw [← e1]
    show _ = _ ++ [(k x, V.int (if x = x then v else f x))]
    rw [if_pos rfl]
theorem tb_set (N : List α) (f : α → Int) (x : α) (v : Int) : tb (addN N x) (setF f x v) = fun y => if y = x then some v else tb N f y := by
  funext y
  unfold tb addN setF
  by_cases e : y = x
  · subst e
    rw [if_pos rfl, if_pos rfl]
    by_cases m : y ∈ N
    · rw [if_pos m, if_pos m]
    · rw [if_neg m, if_pos (List.mem_append_right _ (List.mem_singleton.mpr rfl))]
  · rw [if_neg e, if_neg e]
    by_cases m : x ∈ N
    · rw [if_pos m]
    · rw [if_neg m]
      by_cases q : y ∈ N
      · rw [if_pos q, if_pos (List.mem_append_left _ q)]
      · rw [if_neg q, if_neg fun z => (List.mem_append.mp z).elim q fun z => e (List.mem_singleton.mp z)]
theorem addN_nd {N : List α} (nd : N.Nodup) (x : α) : (addN N x).Nodup := by
  unfold addN
  by_cases m : x ∈ N
  · rw [if_pos m]; exact nd
  · rw [if_neg m]
    refine List.nodup_append.mpr ⟨nd, by simp, fun y my z mz => ?_⟩
    rw [List.mem_singleton.mp mz]
    intro e
    exact m (e ▸ my)
theorem mem_addN {N : List α} {x y : α} : y ∈ addN N x ↔ y ∈ N ∨ y = x := by
  unfold addN
  by_cases m : x ∈ N
  · rw [if_pos m]
    exact ⟨.inl, fun h => h.elim id fun e => e ▸ m⟩
  · rw [if_neg m, List.mem_append, List.mem_singleton]
theorem addN_len (N : List α) (x : α) : (addN N x).length ≤ N.length + 1 := by
  unfold addN
  by_cases m : x ∈ N
  · rw [if_pos m]; omega
  · rw [if_neg m, List.length_append]; exact Nat.le_refl _
theorem tb_some {N : List α} {f : α → Int} {x : α} {v : Int} : tb N f x = some v ↔ x ∈ N ∧ f x = v := by
  unfold tb
  by_cases m : x ∈ N
  · rw [if_pos m]
    constructor
    · intro h; exact ⟨m, Option.some.inj h⟩
    · intro h; exact congrArg some h.2
  · rw [if_neg m]
    constructor
    · intro h; cases h
    · intro h; exact absurd h.1 m
theorem tb_in {N : List α} {f : α → Int} {x : α} (m : x ∈ N) : tb N f x = some (f x) := if_pos m
theorem tb_out {N : List α} {f : α → Int} {x : α} (m : x ∉ N) : tb N f x = none := if_neg m
end
abbrev kS (x : Str) : Key := Sum.inr x
abbrev kP (p : Str × Str) : List Key := [Sum.inr p.1, Sum.inr p.2]
theorem kS_inj : ∀ x y, kS x = kS y → x = y := fun _ _ h => Sum.inr.inj h
theorem kP_inj : ∀ p q, kP p = kP q → p = q := fun p q h => by
  obtain ⟨a, b⟩ := p
  obtain ⟨c, d⟩ := q
  have h1 := (List.cons.inj h).1
  have h2 := (List.cons.inj (List.cons.inj h).2).1
  have e1 : a = c := Sum.inr.inj h1
  have e2 : b = d := Sum.inr.inj h2
  rw [e1, e2]
/-- a dict with texts as keys, one with pairs of texts -/
def dS (N : List Str) (f : Str → Int) : HO := .dK (kvs kS N f)
def dP (N : List (Str × Str)) (f : Str × Str → Int) : HO := .dT (kvs kP N f)
theorem dS_get {H : Hp} {d : Addr} {N : List Str} {f : Str → Int} (h : H d = some (dS N f)) (x : Str) : DGet H d (.str x) ((tb N f x).map V.int) := by
  rw [← kvs_val kS_inj f x N]
  exact DGet.k (k := kS x) h
theorem dP_get {H : Hp} {d t : Addr} {N : List (Str × Str)} {f : Str × Str → Int} {a b : Str} (h : H d = some (dP N f)) (ht : H t = some (.tup [.str a, .str b])) : DGet H d (.ref t) ((tb N f (a, b)).map V.int) := by
  rw [← kvs_val kP_inj f (a, b) N]
  exact DGet.t (k := kP (a, b)) h ht
theorem dS_has {H : Hp} {d : Addr} {N : List Str} {f : Str → Int} (h : H d = some (dS N f)) {x : Str} (m : x ∈ N) : DGet H d (.str x) (some (.int (f x))) := by
  have q := dS_get h x
  rwa [tb_in m] at q
theorem dS_put {H : Hp} {d : Addr} {N : List Str} {f : Str → Int} (h : H d = some (dS N f)) (x : Str) (v : Int) (hl : N.length < 100000) : DPut H d (.str x) (.int v) (upd H d (dS (addN N x) (setF f x v))) := by
  have q := DPut.k (k := kS x) (v := .int v) h (by rw [kvs_len]; exact small' hl)
  rwa [kvs_put kS_inj] at q
theorem dP_put {H : Hp} {d t : Addr} {N : List (Str × Str)} {f : Str × Str → Int} {a b : Str} (h : H d = some (dP N f)) (ht : H t = some (.tup [.str a, .str b])) (v : Int) (hl : N.length < 100000) :
    DPut H d (.ref t) (.int v) (upd H d (dP (addN N (a, b)) (setF f (a, b) v))) := by
  have q := DPut.t (k := kP (a, b)) (v := .int v) h ht (by rw [kvs_len]; exact small' hl)
  rwa [kvs_put kP_inj] at q
/-! walks -/
section
variable {K : PySem.W.Frag} {a b : Addr} {xs ys : List V}
theorem walk_enumT : Walk (IteT K a) xs.length (fun H => SqT K H a xs) (YPair (fun i => some (.int (i : Nat))) (fun i => xs[i]?)) := by
  refine ⟨fun i _ hi q => ⟨xs, xs[i], q, by simp [hi]⟩, fun _ q => ⟨xs, q, rfl⟩, fun i H v H' _ q y => ?_⟩
  obtain ⟨T, x, h1, h2, h3, h4⟩ := y
  exact ⟨T, .int (i : Nat), x, h1, h2, h3, rfl, h4 xs q⟩
theorem walk_zip2 (hl : xs.length = ys.length) : Walk (Itz2 K a b) xs.length (fun H => SqT K H a xs ∧ SqL K H b ys) (YPair (fun i => xs[i]?) (fun i => ys[i]?)) := by
  refine ⟨fun i _ hi q => ?_, fun _ q => ⟨xs, ys, q.1, q.2, rfl, hl.symm⟩, fun i H v H' _ q y => ?_⟩
  · have h2 : i < ys.length := by omega
    exact ⟨xs, ys, xs[i], ys[i], q.1, q.2, by simp [hi], by simp [h2]⟩
  · obtain ⟨T, x, z, h1, h2, h3, h4, h5⟩ := y
    exact ⟨T, x, z, h1, h2, h3, h4 xs q.1, h5 ys q.2⟩
end
/-! small things of readings -/
theorem isi (K : PySem.W.Frag) {H : Hp} {x : V} {n c : String} {b : Bool} {Q : VK} (t : TyOf K H x (.type n)) (k : kitB n c = some b) (q : Q (.bl b) H) : rIsi K [x, .ty c] H Q :=
  ⟨x, .ty c, _, _, b, rfl, ClsV.ty c, TyX.base t, kit_ty k, q⟩
theorem strs_flat (ns : List Str) : (ns.map V.str).all flatV = true := List.all_eq_true.mpr fun x m => by
  obtain ⟨y, _, rfl⟩ := List.mem_map.mp m
  rfl
theorem inV_strs (x : Str) (ns : List Str) : inV (.str x) (ns.map V.str) = decide (x ∈ ns) := by
  unfold inV
  induction ns with
  | nil => rfl
  | cons y r ih =>
    rw [List.map_cons, List.any_cons, ih]
    have e : eqV (.str y) (.str x) = decide (y = x) := by
      show (y == x) = _
      by_cases z : y = x
      · rw [decide_eq_true z, z]; exact beq_self_eq_true x
      · rw [decide_eq_false z]; exact beq_eq_false_iff_ne.mpr z
    rw [e]
    by_cases z : y = x
    · rw [decide_eq_true z, Bool.true_or]
      exact (decide_eq_true (by rw [z]; exact List.mem_cons_self)).symm
    · rw [decide_eq_false z, Bool.false_or]
      by_cases m : x ∈ r
      · rw [decide_eq_true m, decide_eq_true (List.mem_cons_of_mem _ m)]
      · rw [decide_eq_false m, decide_eq_false fun q => (List.mem_cons.mp q).elim (fun w => z w.symm) m]
end Sw
namespace Sw
open PySem PySem.Spec PyProof.Rows L2 Wr WM
section
variable {P : Program} {w : World} {K : PySem.W.Frag} {mg : Str → Option Value} {base : Heap}
/-! ### is_integer -/
def spInt : Sp := fun vs H Q _ => ∃ i : Int, vs = [.int i] ∧ Q (.bl true) H
theorem okis_integer (T : Tp K mg) : FnOk P w K mg base CX0 1 T.a_is_integer T.d_is_integer ["thing"] spInt := by
  refine T.F_is_integer.ok scis_integer (fun vs H Q E h => ?_) (fun cdv A outer s H vs Q E hr h => ?_)
  · obtain ⟨i, rfl, _⟩ := h; rfl
  obtain ⟨i, rfl, q⟩ := h
  refine ⟨_, PSs.nox (pss_one (ps_ret (pe_and (pe_callB call_isi (by rfl) T.m_isinstance (by decide +kernel) (pa_cons (pv 0) (pa_cons (pe_bltn (v := .ty "int") (by rfl) T.m_int boot_int rfl) pa_nil))) (pe_one (pe_not (pe_callB call_isi (by rfl) T.m_isinstance (by decide +kernel) (pa_cons (pv 0) (pa_cons (pe_bltn (v := .ty "bool") (by rfl) T.m_bool (by decide +kernel) rfl) pa_nil)))))))), ?_⟩
  refine ⟨_, rfl, _, _, _, _, true, rfl, .ty _, .base (.int i), kit_ty (by decide +kernel), true, rfl, ?_⟩
  exact iteT ⟨_, rfl, _, _, _, _, false, rfl, .ty _, .base (.int i), kit_ty (by decide +kernel), false, rfl, q⟩
theorem ok_law_is_int (T : Tp K mg) : FnOk P w K mg base CX0 1 T.a__law_is_int T.d__law_is_int ["_law_thing"] spInt := by
  refine T.F__law_is_int.ok sc_law_is_int (fun vs H Q E h => ?_) (fun cdv A outer s H vs Q E hr h => ?_)
  · obtain ⟨i, rfl, _⟩ := h; rfl
  obtain ⟨i, rfl, q⟩ := h
  refine ⟨_, PSs.nox (pss_one (ps_ret (pe_and (pe_callB call_isi (by rfl) T.m_isinstance (by decide +kernel) (pa_cons (pv 0) (pa_cons (pe_bltn (v := .ty "int") (by rfl) T.m_int boot_int rfl) pa_nil))) (pe_one (pe_not (pe_callB call_isi (by rfl) T.m_isinstance (by decide +kernel) (pa_cons (pv 0) (pa_cons (pe_bltn (v := .ty "bool") (by rfl) T.m_bool (by decide +kernel) rfl) pa_nil)))))))), ?_⟩
  refine ⟨_, rfl, _, _, _, _, true, rfl, .ty _, .base (.int i), kit_ty (by decide +kernel), true, rfl, ?_⟩
  exact iteT ⟨_, rfl, _, _, _, _, false, rfl, .ty _, .base (.int i), kit_ty (by decide +kernel), false, rfl, q⟩
/-! ### is_word -/
def letters : List Nat := ("abcdefghijklmnopqrstuvwxyz" : Str).cps.toList
def signs : List Nat := ("abcdefghijklmnopqrstuvwxyz0123456789" : Str).cps.toList
structure Nm (x : Str) : Prop where
  pos : 1 ≤ x.length
  most : x.length ≤ 8
  head : ∃ c, x.cps.toList[0]? = some c ∧ c ∈ letters
  all : ∀ c ∈ x.cps.toList, c ∈ signs
def spWord : Sp := fun vs H Q _ => (vs = [.str "", .int 8] ∧ Q (.bl false) H) ∨ ∃ x, vs = [.str x, .int 8] ∧ Nm x ∧ ∀ H', Same H H' → Q (.bl true) H'
theorem okis_word (T : Tp K mg) : FnOk P w K mg base CX0 1 T.a_is_word T.d_is_word ["thing", "most"] spWord := by
  refine T.F_is_word.ok scis_word (fun vs H Q E h => ?_) (fun cdv A outer s H vs Q E hr h => ?_)
  · rcases h with ⟨rfl, _⟩ | ⟨x, rfl, _⟩ <;> rfl
  refine ⟨_, PSs.nox (pss_cons (ps_if (PW.pt (pw_or (pt_not (pt_val (pe_callB call_isi (by rfl) T.m_isinstance (by decide +kernel) (pa_cons (pv 0) (pa_cons (pe_bltn (v := .ty "str") (by rfl) T.m_str (by decide +kernel) rfl) pa_nil))))) (pw_or1 (pt_not (pt_chain op_le op_le pe_int (pe_callB call_len_str (by rfl) T.m_len PySem.boot_len (pa_cons (pv 0) pa_nil)) (pv 1)))))) (pss_one (ps_ret pe_bl)) pss_nil)
  (pss_cons (ps_if (pt_cmpR op_notIn_sign (pe_ix ix_str (pv 0) pe_int (fun _ _ => rfl)) (pe_glob (v := .str "abcdefghijklmnopqrstuvwxyz") (by rfl) T.c_LETTERS ⟨_, rfl⟩) (by rfl)) (pss_one (ps_ret pe_bl)) pss_nil)
  (pss_one (ps_ret (pe_callB (cr_all rfl) (by rfl) T.m_all (by decide +kernel) (pa_cons (pe_lc (own := [("sign", 2)]) (te := (tOp _ (tVar 2) _)) (tt := tYes) rfl scis_word.nd (pi_str (pv 0)) (blkOk_by (own := [("sign", 2)]) (N := Nis_word) (sc := defScope sis_word) (by decide +kernel)) (fun _ _ _ _ _ => (pg_name (i := 2) scis_word.nd rfl (Or.inl rfl))) (fun _ _ _ _ _ => pts_nil) (fun _ _ _ _ _ => (pe_cmpR op_in_sign (pv 2) (pe_glob (v := .str "abcdefghijklmnopqrstuvwxyz0123456789") (by rfl) T.c_SIGNS ⟨_, rfl⟩) (by rfl)))) pa_nil)))))), ?_⟩
  rcases h with ⟨rfl, q⟩ | ⟨x, rfl, hx, q⟩
  · refine ⟨_, rfl, _, _, _, _, true, rfl, .ty _, .base (.str ""), kit_ty (by decide +kernel), true, rfl, ?_⟩
    refine iteF ⟨_, rfl, _, rfl, by show 0 ≤ sizeLine; decide, 1, 0, rfl, rfl, false, rfl, iteF ⟨false, rfl, ?_⟩⟩
    exact iteT q
  · refine ⟨_, rfl, _, _, _, _, true, rfl, .ty _, .base (.str x), kit_ty (by decide +kernel), true, rfl, ?_⟩
    have h8 : x.length ≤ 8 := hx.most
    have h1 : 1 ≤ x.length := hx.pos
    refine iteF ⟨_, rfl, x, rfl, small (by omega), 1, x.length, rfl, rfl, true, ?_, iteT ⟨_, rfl, _, _, rfl, rfl, true, ?_, iteF ?_⟩⟩
    · show V.bl (decide ((1 : Int) ≤ (x.length : Int))) = _
      rw [decide_eq_true (by omega)]
    · show V.bl (decide ((x.length : Int) ≤ 8)) = _
      rw [decide_eq_true (by omega)]
    obtain ⟨c, hc, hl⟩ := hx.head
    refine ⟨_, rfl, x, 0, c, rfl, rfl, small (by omega), atI_nat (j := 0) hc, c, _, rfl, rfl, false, ?_, iteF ?_⟩
    · show V.bl (!decide (c ∈ letters)) = _
      rw [decide_eq_true hl]
      rfl
    refine ⟨_, rfl, x, rfl, fun D hD => ?_⟩
    refine lc_it walk_str (Pv := fun i H' => i ≤ x.cps.size ∧ Same H H' ∧ H' D = some (.lst ((List.replicate i true).map V.bl))) ⟨Nat.zero_le _, same_new hD, upd_same⟩ (fun _ _ _ _ => trivial) ?_ ?_
    · rintro i v H1 H' hi ⟨_, e1, e2⟩ ⟨rfl, ch, hch, rfl⟩
      refine ⟨rfl, ⟨_, rfl, ch, _, rfl, rfl, _, e2, small' (by rw [List.length_map, List.length_replicate]; have : x.cps.size ≤ 8 := h8; omega), ?_⟩⟩
      have hin : ch ∈ signs := hx.all ch (by
        have q := List.mem_of_getElem? (l := x.cps.toList) (i := i) (a := ch) (by rw [Array.getElem?_toList]; exact hch)
        exact q)
      refine ⟨by omega, same_mut e1 hD, ?_⟩
      rw [upd_same]
      show some (HO.lst (List.map V.bl (List.replicate i true) ++ [V.bl (decide (ch ∈ signs))])) = _
      rw [decide_eq_true hin, List.replicate_succ', List.map_append]
      rfl
    · rintro H' ⟨_, e1, e2⟩
      refine ⟨D, List.replicate x.cps.size true, rfl, sq_l e2, ?_⟩
      rw [show (List.replicate x.cps.size true).all id = true by simp]
      exact q _ e1
/-! ### is_name, is_end, is_tie -/
structure NmOk (x : Str) : Prop where
  nm : Nm x
  free : x ∉ resW
theorem NmOk.ne {x : Str} (h : NmOk x) : x ≠ "" := fun e => by
  have := h.nm.pos
  rw [e] at this
  exact absurd this (by decide)
def spName : Sp := fun vs H Q _ => (vs = [.str ""] ∧ Q (.bl false) H) ∨ ∃ x, vs = [.str x] ∧ NmOk x ∧ ∀ H', Same H H' → Q (.bl true) H'
theorem okis_name (T : Tp K mg) : FnOk P w K mg base CX0 2 T.a_is_name T.d_is_name ["thing"] spName := by
  refine T.F_is_name.ok scis_name (fun vs H Q E h => ?_) (fun cdv A outer s H vs Q E hr h => ?_)
  · rcases h with ⟨rfl, _⟩ | ⟨x, rfl, _⟩ <;> rfl
  refine ⟨_, PSs.nox (pss_one (ps_ret (pe_and (pe_call (okis_word T) (hr.mono (by decide)) (by rfl) T.g_is_word T.F_is_word.kp (b_is_word T) .nil pass0 (pa_cons (pv 0) (pa_cons pe_int pa_nil))) (pe_one (pe_cmpR op_notIn_seq (pv 0) (pe_glob (v := .ref T.a_RESERVED) (by rfl) T.c_RESERVED rfl) (by rfl)))))), ?_⟩
  rcases h with ⟨rfl, q⟩ | ⟨x, rfl, hx, q⟩
  · exact ⟨_, rfl, .inl ⟨rfl, false, rfl, iteF q⟩⟩
  · refine ⟨_, rfl, .inr ⟨x, rfl, hx.nm, fun H' e => ⟨true, rfl, iteT ?_⟩⟩⟩
    refine ⟨_, rfl, T.a_RESERVED, _, rfl, .inr (T.t_RESERVED _), rfl, strs_flat _, ?_⟩
    show Q (.bl (!inV (.str x) (resW.map V.str))) H'
    rw [inV_strs, decide_eq_false hx.free]
    exact q _ e
/-- a name or the empty text -/
def EndOk (x : Str) : Prop := x = "" ∨ NmOk x
def spEnd : Sp := fun vs H Q _ => ∃ x, vs = [.str x] ∧ EndOk x ∧ ∀ H', Same H H' → Q (.bl true) H'
theorem okis_end (T : Tp K mg) : FnOk P w K mg base CX0 3 T.a_is_end T.d_is_end ["thing"] spEnd := by
  refine T.F_is_end.ok scis_end (fun vs H Q E h => ?_) (fun cdv A outer s H vs Q E hr h => ?_)
  · obtain ⟨x, rfl, _⟩ := h; rfl
  obtain ⟨x, rfl, hx, q⟩ := h
  refine ⟨_, PSs.nox (pss_one (ps_ret (pe_or (pe_call (okis_name T) (hr.mono (by decide)) (by rfl) T.g_is_name T.F_is_name.kp (b_is_name T) .nil pass0 (pa_cons (pv 0) pa_nil)) (pe_one (pe_and (pe_callB call_isi (by rfl) T.m_isinstance (by decide +kernel) (pa_cons (pv 0) (pa_cons (pe_bltn (v := .ty "str") (by rfl) T.m_str (by decide +kernel) rfl) pa_nil))) (pe_one (pe_cmpR op_eq (pv 0) pe_str (nomark _)))))))), ?_⟩
  rcases hx with rfl | hx
  · refine ⟨_, rfl, .inl ⟨rfl, false, rfl, iteF ?_⟩⟩
    exact ⟨_, rfl, _, _, _, _, true, rfl, .ty _, .base (.str ""), kit_ty (by decide +kernel), true, rfl, iteT ⟨_, rfl, rfl, q _ (Same.refl _)⟩⟩
  · exact ⟨_, rfl, .inr ⟨x, rfl, hx, fun H' e => ⟨true, rfl, iteT (q _ e)⟩⟩⟩
structure TieOk (t : Tie) : Prop where
  one : EndOk t.1
  two : EndOk t.2.1
  ne : t.1 ≠ t.2.1
def spTie : Sp := fun vs H Q _ => ∃ a t, vs = [.ref a] ∧ H a = some (tieO t) ∧ TieOk t ∧ ∀ H', Same H H' → Q (.bl true) H'
theorem okis_tie (T : Tp K mg) : FnOk P w K mg base CX0 4 T.a_is_tie T.d_is_tie ["thing"] spTie := by
  refine T.F_is_tie.ok scis_tie (fun vs H Q E h => ?_) (fun cdv A outer s H vs Q E hr h => ?_)
  · obtain ⟨a, t, rfl, _⟩ := h; rfl
  obtain ⟨a, ⟨t1, t2, n⟩, rfl, ha, ht, q⟩ := h
  refine ⟨_, PSs.nox (pss_cons (ps_if (PW.pt (pw_or (pt_not (pt_val (pe_callB call_isi (by rfl) T.m_isinstance (by decide +kernel) (pa_cons (pv 0) (pa_cons (pe_bltn (v := .ty "tuple") (by rfl) T.m_tuple (by decide +kernel) rfl) pa_nil))))) (pw_or1 (pt_cmpR op_ne (pe_callB call_len_seq (by rfl) T.m_len PySem.boot_len (pa_cons (pv 0) pa_nil)) pe_int (nomark _))))) (pss_one (ps_ret pe_bl)) pss_nil)
  (pss_cons (ps_if (PW.pt (pw_or (pt_not (pt_val (pe_call (okis_end T) (hr.mono (by decide)) (by rfl) T.g_is_end T.F_is_end.kp (b_is_end T) .nil pass0 (pa_cons (pe_ix ix_tup (pv 0) pe_int (fun _ _ => rfl)) pa_nil)))) (pw_or1 (pt_not (pt_val (pe_call (okis_end T) (hr.mono (by decide)) (by rfl) T.g_is_end T.F_is_end.kp (b_is_end T) .nil pass0 (pa_cons (pe_ix ix_tup (pv 0) pe_int (fun _ _ => rfl)) pa_nil))))))) (pss_one (ps_ret pe_bl)) pss_nil)
  (pss_one (ps_ret (pe_and (pe_cmpR op_ne (pe_ix ix_tup (pv 0) pe_int (fun _ _ => rfl)) (pe_ix ix_tup (pv 0) pe_int (fun _ _ => rfl)) (nomark _)) (pe_one (pe_call (okis_integer T) (hr.mono (by decide)) (by rfl) T.g_is_integer T.F_is_integer.kp (b_is_integer T) .nil pass0 (pa_cons (pe_ix ix_tup (pv 0) pe_int (fun _ _ => rfl)) pa_nil)))))))), ?_⟩
  refine ⟨_, rfl, _, _, _, _, true, rfl, .ty _, .base (.tup ha), kit_ty (by decide +kernel), true, rfl, ?_⟩
  refine iteF ⟨_, rfl, a, _, rfl, .inr (sq_t ha), rfl, false, rfl, iteF ?_⟩
  refine ⟨_, rfl, a, _, _, _, rfl, rfl, sq_t ha, rfl, t1, rfl, ht.one, fun H1 e1 => ⟨true, rfl, ?_⟩⟩
  have h1 := e1 _ _ ha
  refine iteF ⟨_, rfl, a, _, _, _, rfl, rfl, sq_t h1, rfl, t2, rfl, ht.two, fun H2 e2 => ⟨true, rfl, iteF ?_⟩⟩
  have h2 := e2 _ _ h1
  refine ⟨_, rfl, a, _, _, _, rfl, rfl, sq_t h2, rfl, _, rfl, a, _, _, _, rfl, rfl, sq_t h2, rfl, rfl, true, ?_, ?_⟩
  · show V.bl (!decide (V.str t1 = V.str t2)) = _
    rw [decide_eq_false fun e => ht.ne (V.str.inj e)]
    rfl
  · exact iteT ⟨_, rfl, a, _, _, _, rfl, rfl, sq_t h2, rfl, n, rfl, q _ (e1.trans e2)⟩
end
end Sw
namespace Sw
open PySem PySem.Spec PyProof.Rows L2 Wr WM
/-! slices -/
theorem cut_take (xs : List V) (k : Nat) : cutV xs none (some (k : Int)) = xs.take k := by
  unfold cutV
  rw [HT.sIx_none, HT.sIx_nat, List.drop_zero, Nat.sub_zero]
  by_cases h : k ≤ xs.length
  · rw [Nat.min_eq_left h]
  · rw [Nat.min_eq_right (by omega), List.take_of_length_le (Nat.le_refl _), List.take_of_length_le (by omega)]
theorem cut_drop (xs : List V) (k : Nat) : cutV xs (some (k : Int)) none = xs.drop k := by
  unfold cutV
  rw [HT.sIx_none, HT.sIx_nat]
  by_cases h : k ≤ xs.length
  · rw [Nat.min_eq_left h, List.take_of_length_le (by rw [List.length_drop]; omega)]
  · rw [Nat.min_eq_right (by omega), List.drop_of_length_le (Nat.le_refl _), List.drop_of_length_le (by omega), Nat.sub_self]
    rfl
/-! set comprehensions by turns -/
section
variable {J J1 : It} {n : Nat} {G : Hp → Prop} {Y : Nat → Hp → V → Hp → Prop}
theorem sc_in (w : Walk J n G Y) {P : Nat → Hp → Prop} {g1 : TG} {tt1 : TT} {te : TE} {σ2 : L2.St} {vs1 : List Nat} {H4 : Hp} {wd : World} {D : Addr} {Nx : Hp → Prop} (h0 : P 0 H4) (hG : ∀ i H, i ≤ n → P i H → G H)
    (hs : ∀ i x H H', i < n → P i H → Y i H x H' → g1 x (wipe σ2 vs1) H' fun σ3 H5 => wipe σ3 vs1 = wipe σ2 vs1 ∧ tt1 σ3 H5 fun b H6 =>
        if b = true then te σ3 H6 fun y H7 => ∃ (c : Str) (L : List Str), y = .str c ∧ H7 D = some (SetSO wd D L) ∧ L.length + 1 < scanBound ∧ ∀ L', Added c L L' → P (i + 1) (upd H7 D (SetSO wd D L')) else P (i + 1) H6) (hd : ∀ H, P n H → Nx H) :
    ∃ W1 : Nat → Nat → Hp → Prop, (∃ m, W1 0 m H4) ∧ ∀ j k H, W1 j k H →
      (J.stop j H ∧ Nx H) ∨ (J.go j H ∧ ∃ Nx1 : Hp → Prop, (∀ H', Nx1 H' → ∃ k', k' < k ∧ W1 (j + 1) k' H') ∧ ∀ x H', J.yld j H x H' → g1 x (wipe σ2 vs1) H' fun σ3 H5 => wipe σ3 vs1 = wipe σ2 vs1 ∧ tt1 σ3 H5 fun b H6 =>
        if b = true then te σ3 H6 fun y H7 => ∃ (c : Str) (L : List Str), y = .str c ∧ H7 D = some (SetSO wd D L) ∧ L.length + 1 < scanBound ∧ ∀ L', Added c L L' → Nx1 (upd H7 D (SetSO wd D L')) else Nx1 H6) := by
  refine ⟨fun i m H => m = n - i ∧ i ≤ n ∧ P i H, ⟨n, by simp, Nat.zero_le _, h0⟩, ?_⟩
  rintro i m H ⟨rfl, hi, p⟩
  by_cases hlt : i < n
  · exact .inr ⟨w.goes i H hlt (hG i H hi p), P (i + 1), fun H' p' => ⟨n - (i + 1), by omega, rfl, hlt, p'⟩, fun x H' y => hs i x H H' hlt p (w.yields i H x H' hlt (hG i H hi p) y)⟩
  · have e : i = n := by omega
    subst e
    exact .inl ⟨w.stops H (hG i H hi p), hd H p⟩
theorem sc_out (w : Walk J n G Y) {P : Nat → Hp → Prop} {H0 : Hp} {Z : Nat → V → Hp → (Hp → Prop) → Prop} {Qd : Hp → Prop} (h0 : P 0 H0) (hG : ∀ i H, i ≤ n → P i H → G H)
    (hs : ∀ i x H H', i < n → P i H → Y i H x H' → Z i x H' (P (i + 1))) (hd : ∀ H, P n H → Qd H) :
    ∃ W : Nat → Nat → Hp → Prop, (∃ m, W 0 m H0) ∧ ∀ i m H, W i m H →
      (J.stop i H ∧ Qd H) ∨ (J.go i H ∧ ∃ Nx : Hp → Prop, (∀ H', Nx H' → ∃ m', m' < m ∧ W (i + 1) m' H') ∧ ∀ x H', J.yld i H x H' → Z i x H' Nx) := by
  refine ⟨fun i m H => m = n - i ∧ i ≤ n ∧ P i H, ⟨n, by simp, Nat.zero_le _, h0⟩, ?_⟩
  rintro i m H ⟨rfl, hi, p⟩
  by_cases hlt : i < n
  · exact .inr ⟨w.goes i H hlt (hG i H hi p), P (i + 1), fun H' p' => ⟨n - (i + 1), by omega, rfl, hlt, p'⟩, fun x H' y => hs i x H H' hlt p (w.yields i H x H' hlt (hG i H hi p) y)⟩
  · have e : i = n := by omega
    subst e
    exact .inl ⟨w.stops H (hG i H hi p), hd H p⟩
end
/-! sorted lists of texts -/
theorem rising_mem : ∀ (p : Str) (l : List Str), risingS p l = true → ∀ y ∈ l, ¬ y.cps.toList < p.cps.toList
  | p, [], _, _, m => nomatch m
  | p, x :: r, h, y, m => by
    have h : (!ltCps x.cps.toList p.cps.toList && risingS x r) = true := h
    rw [Bool.and_eq_true, Bool.not_eq_true', ltCps_eq, decide_eq_false_iff_not] at h
    rcases List.mem_cons.mp m with rfl | m
    · exact h.1
    · have q := rising_mem x r h.2 y m
      exact List.not_lt.mpr (List.le_trans (List.not_lt.mp h.1) (List.not_lt.mp q))
theorem sorted_tail {x : Str} {r : List Str} (h : sortedS (x :: r) = true) : sortedS r = true := by
  cases r with
  | nil => rfl
  | cons y r =>
    have h : (!ltCps y.cps.toList x.cps.toList && risingS y r) = true := h
    rw [Bool.and_eq_true] at h
    exact h.2
theorem str_ext {a b : Str} (h : a.cps.toList = b.cps.toList) : a = b := by
  cases a; cases b
  simp only [Str.mk.injEq]
  exact Array.toList_inj.mp h
theorem sorted_one : ∀ (xs ys : List Str), sortedS xs = true → sortedS ys = true → xs.Perm ys → xs = ys
  | [], ys, _, _, p => (List.nil_perm.mp p).symm
  | x :: xs, [], _, _, p => absurd p.length_eq (by simp)
  | x :: xs, y :: ys, h, k, p => by
    have e : x = y := by
      have m1 : x ∈ y :: ys := p.mem_iff.mp List.mem_cons_self
      have m2 : y ∈ x :: xs := p.mem_iff.mpr List.mem_cons_self
      rcases List.mem_cons.mp m1 with e | m1
      · exact e
      rcases List.mem_cons.mp m2 with e | m2
      · exact e.symm
      have a1 := rising_mem y ys k x m1
      have a2 := rising_mem x xs h y m2
      exact str_ext (List.le_antisymm (List.not_lt.mp a2) (List.not_lt.mp a1))
    subst e
    rw [sorted_one xs ys (sorted_tail h) (sorted_tail k) (List.Perm.cons_inv p)]
/-- the names of lots in ties -/
structure Lots (T : List Tie) (ns : List Str) : Prop where
  srt : sortedS ns = true
  nd : ns.Nodup
  mem : ∀ x, x ∈ ns ↔ x ≠ "" ∧ ∃ t ∈ T, x = t.1 ∨ x = t.2.1
theorem Lots.uniq {T : List Tie} {ns ms : List Str} (a : Lots T ns) (b : Lots T ms) : ns = ms :=
  sorted_one _ _ a.srt b.srt ((List.perm_ext_iff_of_nodup a.nd b.nd).mpr fun x => (a.mem x).trans (b.mem x).symm)
/-- ties as all of them are here -/
structure TsOk (T : List Tie) : Prop where
  ok : ∀ t ∈ T, TieOk t
  few : T.length ≤ 100
  nm : ∃ NL : List Str, NL.length ≤ 20 ∧ ∀ t ∈ T, t.1 ∈ NL ∧ t.2.1 ∈ NL
theorem TsOk.sub {T U : List Tie} (h : TsOk T) (s : ∀ t ∈ U, t ∈ T) (l : U.length ≤ 100) : TsOk U := by
  obtain ⟨NL, h1, h2⟩ := h.nm
  exact ⟨fun t m => h.ok t (s t m), l, NL, h1, fun t m => h2 t (s t m)⟩
section
variable {P : Program} {w : World} {K : PySem.W.Frag} {mg : Str → Option Value} {base : Heap}
/-! ### lots_in -/
def spLots (K : PySem.W.Frag) : Sp := fun vs H Q _ => ∃ a L, vs = [.ref a] ∧ SqT K H a (rf L) ∧ TiesIn H L ∧ TsOk (tv L) ∧ ∀ H' p ns, Same H H' → H' p = some (.tup (ns.map V.str)) → Lots (tv L) ns → Q (.ref p) H'
theorem oklots_in (T : Tp K mg) : FnOk P w K mg base CX0 1 T.a_lots_in T.d_lots_in ["rows"] (spLots K) := by
  refine T.F_lots_in.ok sclots_in (fun vs H Q E h => ?_) (fun cdv A outer s H vs Q E hr h => ?_)
  · obtain ⟨a, L, rfl, _⟩ := h; rfl
  obtain ⟨a, L, rfl, ha, hL, ok, q⟩ := h
  refine ⟨_, PSs.nox (pss_one (ps_ret (pe_callTy call_tuple_of (by rfl) T.m_tuple (by decide +kernel) (pa_cons (pe_callB (Wr.cr_sortSO rfl) (by rfl) T.m_sorted (by decide +kernel) (pa_cons (pe_sc2 (own := [("row", 1), ("name", 2)]) (vs1 := [2]) (wi1 := (iTup K (tSl (rSlT K) (tVar 1) tNoPart (tPart (tC (.int 2)))))) (te := (tVar 2)) (tt1 := (tTest (tOp _ (tVar 2) (tC (.str ""))))) rfl sclots_in.nd (pi_tup (pv 0)) (blkOk_by (own := [("row", 1), ("name", 2)]) (N := Nlots_in) (sc := defScope slots_in) (by decide +kernel)) (by decide) (fun _ _ _ _ _ => (pg_name (i := 1) sclots_in.nd rfl (Or.inl rfl))) (fun _ _ _ _ _ => pts_nil) (fun _ _ _ _ _ => (pi_tup (pe_slice sl_tup (pv 1) po_none (po_some pe_int)))) (fun _ _ _ _ _ => (pg_name (i := 2) sclots_in.nd rfl (Or.inl rfl))) (fun _ _ _ _ _ => (pts_one (pt_cmpR op_ne (pv 2) pe_str (nomark _)))) (fun _ _ _ _ _ => (pv 2))) pa_nil)) pa_nil)))), ?_⟩
  refine ⟨_, rfl, a, rfl, ⟨_, ha⟩, fun D hD => ?_⟩
  obtain ⟨NL, hn1, hn2⟩ := ok.nm
  refine sc_out (walk_tup (xs := rf L)) (P := fun i H' => Same H H' ∧ ∃ l : List Str, H' D = some (SetSO w D l) ∧ l.Nodup ∧ ∀ x, x ∈ l ↔ x ≠ "" ∧ ∃ t ∈ (tv L).take i, x = t.1 ∨ x = t.2.1) ?_ ?_ ?_ ?_
  · exact ⟨same_new hD, [], upd_same, List.nodup_nil, fun x => ⟨fun m => (List.not_mem_nil m).elim, fun ⟨_, t, m, _⟩ => (List.not_mem_nil m).elim⟩⟩
  · exact fun i H' _ p => Same.tup p.1 ha
  · rintro i x H1 H' hi ⟨e1, l, hl, nd, hm⟩ ⟨rfl, hx⟩
    obtain ⟨⟨p, t⟩, hq, rfl⟩ := rf_at hx
    have hp := e1 _ _ (hL.at_ hq)
    have ht : t ∈ tv L := List.mem_of_getElem? (at_tv hq)
    have hN := hn2 t ht
    refine ⟨rfl, ⟨_, rfl, 2, rfl, p, _, rfl, sq_t hp, (fun z => absurd (show 2 = 3 from z.2) (by decide)), fun c hc => ?_⟩⟩
    have ec : cutV [V.str t.1, V.str t.2.1, V.int t.2.2] none (some 2) = [V.str t.1, V.str t.2.1] := cut_take _ 2
    rw [ec]
    have e2 := same_new (o := .tup [.str t.1, .str t.2.1]) hc
    refine ⟨c, rfl, ⟨_, sq_t upd_same⟩, ?_⟩
    have within : ∀ l : List Str, l.Nodup → (∀ x ∈ l, x ∈ NL) → l.length ≤ 20 := fun l nd h => Nat.le_trans (nodup_le l NL nd h) hn1
    have lin : ∀ x ∈ l, x ∈ NL := fun x m => by
      obtain ⟨_, u, mu, e⟩ := (hm x).mp m
      have z := hn2 u (List.mem_of_mem_take mu)
      rcases e with rfl | rfl
      · exact z.1
      · exact z.2
    have tk : (tv L).take (i + 1) = (tv L).take i ++ [t] := by
      rw [List.take_add_one, at_tv hq]
      rfl
    refine sc_in (walk_tup (xs := [V.str t.1, V.str t.2.1])) (P := fun j H' => Same H H' ∧ H' c = some (.tup [V.str t.1, V.str t.2.1]) ∧ ∃ l' : List Str, H' D = some (SetSO w D l') ∧ l'.Nodup ∧ (∀ x ∈ l', x ∈ NL) ∧ ∀ x, x ∈ l' ↔ x ∈ l ∨ x ≠ "" ∧ x ∈ [t.1, t.2.1].take j) ?_ ?_ ?_ ?_
    · refine ⟨e1.trans e2, upd_same, l, ?_, nd, lin, fun x => ?_⟩
      · rw [upd_ne (ne_of_none hl hc)]; exact hl
      · exact ⟨.inl, fun z => z.elim id fun z => absurd z.2 List.not_mem_nil⟩
    · exact fun j H' _ p => sq_t p.2.1
    · rintro j y H3 H3' hj ⟨a1, a2, l', hl', nd', lin', hm'⟩ ⟨rfl, hy⟩
      obtain ⟨z, hz, rfl⟩ : ∃ z, [t.1, t.2.1][j]? = some z ∧ y = .str z := by
        match j, hy with
        | 0, hy => exact ⟨_, rfl, (Option.some.inj hy).symm⟩
        | 1, hy => exact ⟨_, rfl, (Option.some.inj hy).symm⟩
      have zN : z ∈ NL := by
        match j, hz with
        | 0, hz => exact Option.some.inj hz ▸ hN.1
        | 1, hz => exact Option.some.inj hz ▸ hN.2
      have tk2 : [t.1, t.2.1].take (j + 1) = [t.1, t.2.1].take j ++ [z] := by rw [List.take_add_one, hz]; rfl
      refine ⟨rfl, ⟨_, rfl, rfl, _, rfl, ite2 (fun ne => ?_) (fun ne => ?_)⟩⟩
      · have ne : z ≠ "" := fun e => by
          rw [e] at ne
          exact absurd ne (by decide +kernel)
        have hb : l'.length + 1 < scanBound := Nat.lt_of_le_of_lt (Nat.succ_le_succ (within l' nd' lin')) (by decide)
        refine ⟨_, rfl, z, l', rfl, hl', hb, fun l2 ad => ?_⟩
        have mm : ∀ x, x ∈ l2 ↔ x ∈ l' ∨ x = z := by
          intro x
          by_cases zi : z ∈ l'
          · rw [ad.1 zi]
            exact ⟨.inl, fun q => q.elim id fun q => q ▸ zi⟩
          · rw [(ad.2 zi).mem_iff, List.mem_cons]
            exact Or.comm
        refine ⟨?_, ?_, l2, upd_same, ?_, fun x m => ?_, fun x => ?_⟩
        · exact same_mut a1 hD
        · rw [upd_ne (ne_of_none hl hc).symm]; exact a2
        · by_cases zi : z ∈ l'
          · rw [ad.1 zi]; exact nd'
          · exact (ad.2 zi).nodup_iff.mpr (List.nodup_cons.mpr ⟨zi, nd'⟩)
        · rcases (mm x).mp m with m | rfl
          · exact lin' x m
          · exact zN
        · rw [mm, hm', tk2, List.mem_append, List.mem_singleton]
          constructor
          · rintro ((m | m) | rfl)
            · exact .inl m
            · exact .inr ⟨m.1, .inl m.2⟩
            · exact .inr ⟨ne, .inr rfl⟩
          · rintro (m | ⟨m1, m2 | m2⟩)
            · exact .inl (.inl m)
            · exact .inl (.inr ⟨m1, m2⟩)
            · exact .inr m2
      · have ze : z = "" := by
          by_cases e : z = ""
          · exact e
          · exact absurd (show (!decide (V.str z = V.str "")) = true by rw [decide_eq_false fun q => e (V.str.inj q)]; rfl) ne
        refine ⟨a1, a2, l', hl', nd', lin', fun x => ?_⟩
        rw [hm', tk2, List.mem_append, List.mem_singleton]
        exact ⟨fun q => q.imp id fun q => ⟨q.1, .inl q.2⟩, fun q => q.imp id fun q => ⟨q.1, q.2.elim id fun e => absurd (e.trans ze) q.1⟩⟩
    · rintro H' ⟨a1, a2, l', hl', nd', lin', hm'⟩
      refine ⟨a1, l', hl', nd', fun x => ?_⟩
      · rw [hm', tk, hm]
        constructor
        · rintro (⟨m1, u, m2, e⟩ | ⟨m1, m2⟩)
          · exact ⟨m1, u, List.mem_append_left _ m2, e⟩
          · refine ⟨m1, t, List.mem_append_right _ (List.mem_singleton.mpr rfl), ?_⟩
            simpa using m2
        · rintro ⟨m1, u, m2, e⟩
          rcases List.mem_append.mp m2 with m2 | m2
          · exact .inl ⟨m1, u, m2, e⟩
          · rw [List.mem_singleton.mp m2] at e
            exact .inr ⟨m1, by simpa using e⟩
  · rintro H' ⟨e1, l, hl, nd, hm⟩
    have h20 : l.length ≤ 20 := Nat.le_trans (nodup_le l NL nd fun x m => by
      obtain ⟨_, u, mu, e⟩ := (hm x).mp m
      have z := hn2 u (List.mem_of_mem_take mu)
      rcases e with rfl | rfl
      · exact z.1
      · exact z.2) hn1
    refine ⟨D, l, rfl, hl, by omega, fun ys p pm srt hp => ?_⟩
    refine ⟨p, _, rfl, .inl ⟨sq_l upd_same, fun p2 hp2 => ?_⟩⟩
    refine q _ p2 ys ((e1.trans (same_new hp)).trans (same_new hp2)) upd_same ⟨srt, pm.nodup_iff.mpr nd, fun x => ?_⟩
    rw [pm.mem_iff, hm, rf_len, ← tv_len, List.take_length]
end
end Sw
namespace Sw
open PySem PySem.Spec PyProof.Rows L2 Wr WM
theorem pi_or {X : Cx} {tg e : Expr} {w1 w2 : TI} (h1 : PI X tg e w1) (h2 : PI X tg e w2) : PI X tg e (fun σ H R => w1 σ H R ∨ w2 σ H R) :=
  ⟨fun pins s σ H R I h => h.elim (h1.run pins s σ H R I) (h2.run pins s σ H R I)⟩
/-- a box of ties -/
def BoxAt (C : Addr) (H : Hp) (a : Addr) (L : TL) : Prop := ∃ dx r, H a = some (.ins C dx [("rows", .ref r)]) ∧ H r = some (.tup (rf L)) ∧ TiesIn H L
theorem BoxAt.mono {C : Addr} {H H' : Hp} {a : Addr} {L : TL} (h : BoxAt C H a L) (e : Same H H') : BoxAt C H' a L := by
  obtain ⟨dx, r, h1, h2, h3⟩ := h
  exact ⟨dx, r, e _ _ h1, e _ _ h2, h3.mono e⟩
section
variable {P : Program} {w : World} {K : PySem.W.Frag} {mg : Str → Option Value} {base : Heap}
/-! ### Ties.__init__ -/
def spTiesI (K : PySem.W.Frag) (C : Addr) : Sp := fun vs H Q _ => ∃ x a dx L, vs = [.ref x, .ref a] ∧ H x = some (.ins C dx []) ∧ (H a = some (.lst (rf L)) ∨ H a = some (.tup (rf L))) ∧ TiesIn H L ∧ TsOk (tv L) ∧
  ∀ H' r, (∀ b o, b ≠ x → H b = some o → H' b = some o) → H' x = some (.ins C dx [("rows", .ref r)]) → H' r = some (.tup (rf L)) → Q .non H'
theorem okTies__init__ (T : Tp K mg) : FnOk P w K mg base CX0 5 T.a_Ties__init__ T.d_Ties__init__ ["self", "rows"] (spTiesI K T.a_Ties) := by
  refine T.F_Ties__init__.ok scTies__init__ (fun vs H Q E h => ?_) (fun cdv A outer s H vs Q E hr h => ?_)
  · obtain ⟨x, a, dx, L, rfl, _⟩ := h; rfl
  obtain ⟨x, a, dx, L, rfl, hx, ha, hL, ok, q⟩ := h
  refine ⟨_, PSs.nox (Evl.pss_cut (ps_for PassesOwn.never rfl (pi_or (pi_enum (by rfl) T.m_enumerate (pa_cons (pv 1) pa_nil)) (Wr.pi_enumT (by rfl) T.m_enumerate (pa_cons (pv 1) pa_nil))) (pg_tup rfl (pgs_cons (pg_name (i := 2) scTies__init__.nd rfl (Or.inl rfl)) (pgs_cons (pg_name (i := 3) scTies__init__.nd rfl (Or.inl rfl)) pgs_nil))) (pss_one (ps_if (pt_not (pt_val (pe_call (okis_tie T) (hr.mono (by decide)) (by rfl) T.g_is_tie T.F_is_tie.kp (b_is_tie T) .nil pass0 (pa_cons (pv 3) pa_nil)))) (pss_one ps_never) pss_nil)))
  (pss_cons (ps_if (pt_cmpR op_gt (pe_callB call_len_seq (by rfl) T.m_len PySem.boot_len (pa_cons (pv 1) pa_nil)) (pe_glob (v := .int 200) (by rfl) T.c_MOST_TIES ⟨_, rfl⟩) (nomark _)) (pss_one ps_never) pss_nil)
  (pss_one (ps_fld (pv 0) (pe_callTy call_tuple_of (by rfl) T.m_tuple (by decide +kernel) (pa_cons (pv 1) pa_nil)) rfl)))), ?_⟩
  have few := ok.few
  rw [tv_len] at few
  have turn : ∀ (i : Nat) (σ : L2.St) (H1 : Hp) (v : V) (H' : Hp) (Nx : L2.St → Hp → Prop) (D : Ends), i < (rf L).length → (∃ y2 y3, σ = [some (.ref x), some (.ref a), y2, y3]) → Same H H1 →
      YPair (fun i => some (.int (i : Nat))) (fun i => (rf L)[i]?) i H1 v H' → (∀ y2 y3 H2, Same H H2 → Nx [some (.ref x), some (.ref a), y2, y3] H2) →
      gTup K 2 (gCons (gName 2) (gCons (gName 3) gNil)) v σ H' fun σ2 H2 => tIfS (tNot (tB (tCall spTie [] E0 (tCons (tVar 3) tNil)))) tNever tNext { D with nx := Nx } σ2 H2 := by
    rintro i _ H1 v H' Nx D hi ⟨y2, y3, rfl⟩ e1 ⟨t, x1, x2, rfl, nt, rfl, h1, h2⟩ hN
    obtain ⟨⟨p, ti⟩, hq, rfl⟩ := rf_at h2
    have e2 := e1.trans (same_new (o := .tup [x1, .ref p]) nt)
    refine ⟨t, _, rfl, sq_t upd_same, rfl, x1, _, rfl, _, _, rfl, rfl, ?_⟩
    refine ⟨_, rfl, p, ti, rfl, e2 _ _ (hL.at_ hq), ok.ok _ (List.mem_of_getElem? (at_tv hq)), fun H3 e3 => ⟨true, rfl, ?_⟩⟩
    exact hN _ _ _ (e2.trans e3)
  have turn2 : ∀ (i : Nat) (v : V) (σ : L2.St) (H1 : Hp) (H' : Hp), i < (rf L).length → ((∃ y2 y3, σ = [some (.ref x), some (.ref a), y2, y3]) ∧ Same H H1) →
      YPair (fun i => some (.int (i : Nat))) (fun i => (rf L)[i]?) i H1 v H' → _ := fun i v σ H1 H' hi p y => turn i σ H1 v H' (fun σ H1 => (∃ y2 y3, σ = [some (.ref x), some (.ref a), y2, y3]) ∧ Same H H1)
        { nx := fun σ H1 => (∃ y2 y3, σ = [some (.ref x), some (.ref a), y2, y3]) ∧ Same H H1, rt := Q, ct := fun σ H1 => (∃ y2 y3, σ = [some (.ref x), some (.ref a), y2, y3]) ∧ Same H H1, bk := fun σ H1 => (∃ y2 y3, σ = [some (.ref x), some (.ref a), y2, y3]) ∧ Same H H1 }
        hi p.1 p.2 y fun y2 y3 H2 e => ⟨⟨y2, y3, rfl⟩, e⟩
  refine ⟨fun σ H1 => (∃ y2 y3, σ = [some (.ref x), some (.ref a), y2, y3]) ∧ Same H H1, ?_, ?_⟩
  · rcases ha with ha | ha
    · refine .inl ⟨_, rfl, a, rf L, rfl, sq_l ha, ?_⟩
      exact for_it (walk_enum (xs := rf L)) (fun _ σ H1 => (∃ y2 y3, σ = [some (.ref x), some (.ref a), y2, y3]) ∧ Same H H1) ⟨⟨none, none, rfl⟩, Same.refl _⟩ (fun _ _ _ _ p => Same.seq p.2 (sq_l ha)) turn2 (fun _ _ p => p)
    · refine .inr ⟨_, rfl, a, rf L, rfl, sq_t ha, ?_⟩
      exact for_it (walk_enumT (xs := rf L)) (fun _ σ H1 => (∃ y2 y3, σ = [some (.ref x), some (.ref a), y2, y3]) ∧ Same H H1) ⟨⟨none, none, rfl⟩, Same.refl _⟩ (fun _ _ _ _ p => Same.tup p.2 (sq_t ha)) turn2 (fun _ _ p => p)
  · rintro _ H1 ⟨⟨y2, y3, rfl⟩, e1⟩
    refine ⟨_, rfl, a, rf L, rfl, ?_, _, _, rfl, rfl, false, ?_, iteF ?_⟩
    · exact ha.imp (fun h => sq_l (e1 _ _ h)) fun h => sq_t (e1 _ _ h)
    · show V.bl (decide ((200 : Int) < ((rf L).length : Int))) = _
      rw [decide_eq_false (by rw [rf_len]; omega)]
    refine ⟨_, rfl, a, rf L, rfl, ?_⟩
    rcases ha with ha | ha
    · refine .inl ⟨sq_l (e1 _ _ ha), fun r hr => ⟨_, rfl, x, _, dx, [], rfl, ?_, T.cl_Ties, T.na_rows, by decide, ?_⟩⟩
      · rw [upd_ne (ne_of_none (e1 _ _ hx) hr)]; exact e1 _ _ hx
      · refine q _ r (fun b o nb e => ?_) upd_same ?_
        · rw [upd_ne nb]; exact same_new hr _ _ (e1 _ _ e)
        · rw [upd_ne (ne_of_none (e1 _ _ hx) hr).symm, upd_same]
    · refine .inr ⟨sq_t (e1 _ _ ha), ⟨_, rfl, x, _, dx, [], rfl, e1 _ _ hx, T.cl_Ties, T.na_rows, by decide, ?_⟩⟩
      refine q _ a (fun b o nb e => ?_) upd_same ?_
      · rw [upd_ne nb]; exact e1 _ _ e
      · rw [upd_ne (ne_of ha hx (fun z => HO.noConfusion z))]; exact e1 _ _ ha
/-- what making a box asks -/
theorem make_ties {C : Addr} {H : Hp} {a : Addr} {L : TL} {x dx : Addr} {R : Hp → Prop} {E : XK} (hx : H x = none) (hdx : H dx = none) (ha : H a = some (.lst (rf L)) ∨ H a = some (.tup (rf L))) (hL : TiesIn H L) (ok : TsOk (tv L)) (q : ∀ H', Same H H' → BoxAt C H' x L → R H') :
    spTiesI K C (.ref x :: ([.ref a] ++ [])) (upd (upd H dx (.own x)) x (.ins C dx [])) (fun v H2 => v = .non ∧ R H2) E := by
  have s1 : Same H (upd (upd H dx (.own x)) x (.ins C dx [])) := fun b o e => by
    rw [upd_ne (ne_of_none e hx), upd_ne (ne_of_none e hdx)]
    exact e
  refine ⟨x, a, dx, L, rfl, upd_same, ha.imp (s1 _ _) (s1 _ _), hL.mono s1, ok, fun H' r k h1 h2 => ⟨rfl, ?_⟩⟩
  have s2 : Same H H' := fun b o e => k b o (ne_of_none e hx) (s1 _ _ e)
  exact q H' s2 ⟨dx, r, h1, h2, hL.mono s2⟩
/-! ### Ties.lots, __len__, __iter__ -/
def spLotsP (C : Addr) : Sp := fun vs H Q _ => ∃ a L, vs = [.ref a] ∧ BoxAt C H a L ∧ TsOk (tv L) ∧ ∀ H' p ns, Same H H' → H' p = some (.tup (ns.map V.str)) → Lots (tv L) ns → Q (.ref p) H'
theorem okTieslots (T : Tp K mg) : FnOk P w K mg base CX0 2 T.a_Tieslots T.d_Tieslots ["self"] (spLotsP T.a_Ties) := by
  refine T.F_Tieslots.ok scTieslots (fun vs H Q E h => ?_) (fun cdv A outer s H vs Q E hr h => ?_)
  · obtain ⟨a, L, rfl, _⟩ := h; rfl
  obtain ⟨a, L, rfl, ⟨dx, r, h1, h2, h3⟩, ok, q⟩ := h
  refine ⟨_, PSs.nox (pss_one (ps_ret (pe_call (oklots_in T) (hr.mono (by decide)) (by rfl) T.g_lots_in T.F_lots_in.kp (b_lots_in T) .nil pass0 (pa_cons (pe_fld (pv 0) rfl) pa_nil)))), ?_⟩
  exact ⟨_, rfl, a, _, dx, _, _, rfl, h1, T.cl_Ties, T.na_rows, rfl, r, L, rfl, sq_t h2, h3, ok, q⟩
theorem okTies__len__ (T : Tp K mg) : FnOk P w K mg base CX0 1 T.a_Ties__len__ T.d_Ties__len__ ["self"] (spLn K T.a_Ties "rows") := by
  refine T.F_Ties__len__.ok scTies__len__ (fun vs H Q E h => ?_) (fun cdv A outer s H vs Q E hr h => ?_)
  · obtain ⟨a, dx, fs, t, xs, rfl, _⟩ := h; rfl
  obtain ⟨a, dx, fs, t, xs, rfl, h1, h2, h3, q⟩ := h
  refine ⟨_, PSs.nox (pss_one (ps_ret (pe_callB call_len_seq (by rfl) T.m_len PySem.boot_len (pa_cons (pe_fld (pv 0) rfl) pa_nil)))), ?_⟩
  exact ⟨_, rfl, a, _, dx, _, _, rfl, h1, T.cl_Ties, T.na_rows, h2, t, xs, rfl, .inr h3, q⟩
theorem okTies__iter__ (T : Tp K mg) : FnN P w K mg base CX0 1 T.a_Ties__iter__ T.d_Ties__iter__ ["self"] (spItr K T.a_Ties "rows") := by
  refine fnN_of T.F_Ties__iter__ scTies__iter__ (fun n vs H Q E h => ?_) (fun cdv A outer s H vs Q E hr h => ?_)
  · obtain ⟨a, dx, fs, t, xs, rfl, _⟩ := h; rfl
  obtain ⟨a, dx, fs, t, xs, rfl, h1, h2, h3, q⟩ := h
  refine ⟨_, PSs.nox (pss_one (ps_ret (pe_callB Wr.call_iterT (by rfl) T.m_iter (by decide +kernel) (pa_cons (pe_fld (pv 0) rfl) pa_nil)))), ?_⟩
  exact ⟨_, rfl, a, _, dx, _, _, rfl, h1, T.cl_Ties, T.na_rows, h2, t, xs, rfl, h3, q⟩
theorem okTable__iter__ (T : Tp K mg) : FnN P w K mg base CX0 1 T.a_Table__iter__ T.d_Table__iter__ ["self"] (spItr K T.a_Table "_ties") := by
  refine fnN_of T.F_Table__iter__ scTable__iter__ (fun n vs H Q E h => ?_) (fun cdv A outer s H vs Q E hr h => ?_)
  · obtain ⟨a, dx, fs, t, xs, rfl, _⟩ := h; rfl
  obtain ⟨a, dx, fs, t, xs, rfl, h1, h2, h3, q⟩ := h
  refine ⟨_, PSs.nox (pss_one (ps_ret (pe_callB Wr.call_iterT (by rfl) T.m_iter (by decide +kernel) (pa_cons (pe_fld (pv 0) rfl) pa_nil)))), ?_⟩
  exact ⟨_, rfl, a, _, dx, _, _, rfl, h1, T.cl_Table, T.na__ties, h2, t, xs, rfl, h3, q⟩
end
end Sw
namespace Sw
open PySem PySem.Spec PyProof.Rows L2 Wr WM
theorem sz0 : ([] : List V).length ≤ sizeLine := Nat.zero_le _
theorem sz1 {a : V} : [a].length ≤ sizeLine := by show 1 ≤ sizeLine; decide
theorem sz2 {a b : V} : [a, b].length ≤ sizeLine := by show 2 ≤ sizeLine; decide
theorem sz3 {a b c : V} : [a, b, c].length ≤ sizeLine := by show 3 ≤ sizeLine; decide
def nI (l : List Nat) : List V := l.map fun (k : Nat) => V.int ((k : Nat) : Int)
theorem nI_app (l m : List Nat) : nI (l ++ m) = nI l ++ nI m := List.map_append
theorem nI_len (l : List Nat) : (nI l).length = l.length := List.length_map _
/-- a ring as it is told: a tuple of numbers, known as the object that it is -/
def RingAt (H : Hp) (p : Addr) (l : List Nat) : Prop := ∃ o : Obj, o.cls = .type "tuple" ∧ o.dict = none ∧ H p = some (.frz o (.tup (nI l)))
theorem RingAt.mono {H H' : Hp} {p : Addr} {l : List Nat} (h : RingAt H p l) (e : Same H H') : RingAt H' p l := by
  obtain ⟨o, h1, h2, h3⟩ := h
  exact ⟨o, h1, h2, e _ _ h3⟩
theorem RingAt.sq {K : PySem.W.Frag} {H : Hp} {p : Addr} {l : List Nat} (h : RingAt H p l) : SqT K H p (nI l) := by
  obtain ⟨o, h1, h2, h3⟩ := h
  exact .inl (.inr ⟨o, h3⟩)
/-- the dict of numbers of ties by which days came -/
def Came (st : PS Str) (N : List Str) (f : Str → Int) : Prop := ∀ v e, st.c v = some e → v ∈ N ∧ f v = ((e : Nat) : Int)
section
variable {P : Program} {w : World} {K : PySem.W.Frag} {mg : Str → Option Value} {base : Heap}
def spRing : Sp := fun vs H Q _ => ∃ r c L N f st x mv q, vs = [.ref r, .ref c, .str x, .int ((mv : Nat) : Int)] ∧ H r = some (.tup (rf L)) ∧ TiesIn H L ∧ H c = some (dS N f) ∧ Came st N f ∧ Back (tv L) st mv q x ∧ mv ≤ 1000 ∧ q ≤ 1000 ∧
  (ringL (tv L) st (it (tv L) st mv x) (q - 1)).Nodup ∧
  ∀ H' p s k, Same H H' → RingAt H' p ((ringL (tv L) st (it (tv L) st mv x) (q - 1)).drop s ++ (ringL (tv L) st (it (tv L) st mv x) (q - 1)).take s) →
    (ringL (tv L) st (it (tv L) st mv x) (q - 1))[s]? = some k → (∀ j ∈ ringL (tv L) st (it (tv L) st mv x) (q - 1), k ≤ j) → Q (.ref p) H'
theorem src_at {T : List Tie} {st : PS Str} {v : Str} {e : Nat} {a b : Str} {n : Int} (h : st.c v = some e) (k : T[e]? = some (a, b, n)) : srcOf T st v = a := by
  unfold srcOf
  rw [h]
  dsimp only
  rw [k]
theorem okring_behind (T : Tp K mg) : FnOk P w K mg base CX0 1 T.a_ring_behind T.d_ring_behind ["rows", "came", "name", "many"] spRing := by
  refine T.F_ring_behind.ok scring_behind (fun vs H Q E h => ?_) (fun cdv A outer s H vs Q E hr h => ?_)
  · obtain ⟨r, c, L, N, f, st, x, mv, q, rfl, _⟩ := h; rfl
  obtain ⟨r, c, L, N, f, st, x, mv, q, rfl, hR, hL, hc, hC, B, hV, hq, nd, hQ⟩ := h
  refine ⟨_, PSs.nox (pss_cons (ps_for PassesOwn.never rfl (pi_range1 (by rfl) T.m_range (pa_cons (pv 3) pa_nil)) (pg_name (i := 4) scring_behind.nd rfl (Or.inl rfl)) (pss_one (ps_set (i := 2) scring_behind.nd rfl (Or.inl rfl) (pe_ix ix_tup (pe_ix ix_tup (pv 0) (pe_dget (hu_of hr) (pv 1) (pv 2) (fun _ _ => rfl)) (fun _ _ => rfl)) pe_int (fun _ _ => rfl)))))
  (pss_cons (ps_set (i := 5) scring_behind.nd rfl (Or.inl rfl) (pe_lst (pa_cons (pe_dget (hu_of hr) (pv 1) (pv 2) (fun _ _ => rfl)) pa_nil)))
  (pss_cons (ps_while PassesOwn.never (pt_cmpR op_ne (pe_ix ix_tup (pe_ix ix_tup (pv 0) (pe_ix ix_list (pv 5) pe_int (fun _ _ => rfl)) (fun _ _ => rfl)) pe_int (fun _ _ => rfl)) (pv 2) (nomark _)) (pss_one (ps_set (i := 5) scring_behind.nd rfl (Or.inl rfl) (pe_op op_cat (pe_lst (pa_cons (pe_dget (hu_of hr) (pv 1) (pe_ix ix_tup (pe_ix ix_tup (pv 0) (pe_ix ix_list (pv 5) pe_int (fun _ _ => rfl)) (fun _ _ => rfl)) pe_int (fun _ _ => rfl)) (fun _ _ => rfl)) pa_nil)) (pv 5)))))
  (pss_cons (ps_set (i := 6) scring_behind.nd rfl (Or.inl rfl) (pe_bm PySem.F.plainAttrs_list PySem.F.slot_list_index PySem.F.type_list_index mt_index (pv 5) (pa_cons (pe_callB (cr_min rfl) (by rfl) T.m_min (by decide +kernel) (pa_cons (pv 5) pa_nil)) pa_nil)))
  (pss_one (ps_ret (pe_callTy Wr.call_tupleF (by rfl) T.m_tuple (by decide +kernel) (pa_cons (pe_op op_cat (pe_slice sl_list (pv 5) (po_some (pv 6)) po_none) (pe_slice sl_list (pv 5) po_none (po_some (pv 6)))) pa_nil)))))))), ?_⟩
  -- one step back
  have step : ∀ (v : Str) (e : Nat) (n : Int), st.c v = some e → (tv L)[e]? = some (srcOf (tv L) st v, v, n) → ∃ p : Addr, (rf L)[e]? = some (.ref p) ∧ H p = some (.tup [.str (srcOf (tv L) st v), .str v, .int n]) := by
    intro v e n h1 h2
    cases h3 : L[e]? with
    | none =>
      unfold tv at h2
      rw [List.getElem?_map, h3] at h2
      cases h2
    | some q =>
      have h4 := at_tv h3
      rw [h2] at h4
      refine ⟨q.1, at_rf h3, ?_⟩
      have h5 := hL.at_ h3
      rw [← Option.some.inj h4] at h5
      exact h5
  refine ⟨_, rfl, ((mv : Nat) : Int), rfl, by omega, by omega, ?_⟩
  rw [show ((mv : Nat) : Int).toNat = mv from Int.toNat_natCast mv]
  refine for_it (walk_range (lo := 0) (n := mv)) (fun k σ H1 => H1 = H ∧ ∃ y, σ = [some (.ref r), some (.ref c), some (.str (it (tv L) st k x)), some (.int mv), y, none, none]) ⟨rfl, none, rfl⟩ (fun _ _ _ _ _ => trivial) ?_ ?_
  · rintro k v _ H1 H' hk ⟨rfl, y, rfl⟩ ⟨rfl, rfl⟩
    obtain ⟨e, n, h1, h2⟩ := B.go k hk
    obtain ⟨p, h3, h4⟩ := step _ e n h1 h2
    have hm := hC _ _ h1
    refine ⟨_, rfl, _, rfl, _, rfl, c, _, rfl, by have z := dS_has hc hm.1; rw [hm.2] at z; exact z, r, _, _, _, rfl, rfl, sq_t hR, atI_nat h3, p, _, _, _, rfl, rfl, sq_t h4, rfl, rfl, _, rfl⟩
  · rintro _ H1 ⟨rfl, y, rfl⟩
    have cyc := B.cyc
    have two := B.two
    have per := B.per
    have no := B.no
    generalize it (tv L) st mv x = z at cyc per no nd hQ ⊢
    -- the number by which z's days came, and the tie there
    have cn : ∀ m, ∃ e n, cnOf st (it (tv L) st m z) = e ∧ it (tv L) st m z ∈ N ∧ f (it (tv L) st m z) = ((e : Nat) : Int) ∧ ∃ p : Addr, (rf L)[e]? = some (.ref p) ∧ H1 p = some (.tup [.str (it (tv L) st (m + 1) z), .str (it (tv L) st m z), .int n]) := by
      intro m
      obtain ⟨e, n, h1, h2⟩ := cyc m
      obtain ⟨p, h3, h4⟩ := step _ e n h1 h2
      have h5 := hC _ _ h1
      refine ⟨e, n, ?_, h5.1, h5.2, p, h3, h4⟩
      unfold cnOf
      rw [h1]
      rfl
    obtain ⟨e0, n0, c1, c2, c3, _⟩ := cn 0
    have g0 := dS_has hc c2
    rw [c3] at g0
    refine ⟨_, rfl, _, rfl, c, _, rfl, g0, sz1, fun p0 hp0 => ?_⟩
    refine ⟨fun m σ H2 => ∃ k p, m = q - 1 - k ∧ k < q ∧ σ = [some (.ref r), some (.ref c), some (.str z), some (.int mv), y, some (.ref p), none] ∧ Same H1 H2 ∧ H2 p = some (.lst (nI (ringL (tv L) st z k))), ⟨q - 1, 0, p0, rfl, by omega, rfl, same_new hp0, ?_⟩, ?_⟩
    · rw [upd_same]
      show some (HO.lst [V.int ((e0 : Nat) : Int)]) = some (HO.lst [V.int ((cnOf st z : Nat) : Int)])
      rw [show cnOf st z = e0 from c1]
    rintro m _ H2 ⟨k, p, rfl, hk, rfl, e1, h2⟩
    obtain ⟨e, n, d1, d2, d3, pt, d4, d5⟩ := cn k
    have first : atI (nI (ringL (tv L) st z k)) 0 = some (.int ((e : Nat) : Int)) := by
      refine atI_nat (j := 0) ?_
      unfold nI
      rw [List.getElem?_map, ringL_at z k 0 (Nat.zero_le _), Nat.sub_zero, d1]
      rfl
    refine ⟨_, rfl, _, rfl, p, _, _, _, rfl, rfl, sq_l h2, first, r, _, _, _, rfl, rfl, sq_t (e1 _ _ hR), atI_nat d4, pt, _, _, _, rfl, rfl, sq_t (e1 _ _ d5), rfl, _, rfl, rfl, _, rfl, ite2 (fun ne => ?_) (fun ne => ?_)⟩
    · have ne : it (tv L) st (k + 1) z ≠ z := fun e => by
        rw [e] at ne
        rw [decide_eq_true rfl] at ne
        exact absurd ne (by decide)
      have hk1 : k + 1 < q := by
        by_cases h : k + 1 < q
        · exact h
        · have : k + 1 = q := by omega
          rw [this] at ne
          exact absurd per ne
      obtain ⟨e', n', f1, f2, f3, _⟩ := cn (k + 1)
      have g1 := dS_has (e1 _ _ hc) f2
      rw [f3] at g1
      refine ⟨fun σ H2 => ∃ p, σ = [some (.ref r), some (.ref c), some (.str z), some (.int mv), y, some (.ref p), none] ∧ Same H1 H2 ∧ H2 p = some (.lst (nI (ringL (tv L) st z (k + 1)))), fun σ' H' ⟨p, a1, a2, a3⟩ => ⟨q - 1 - (k + 1), by omega, k + 1, p, rfl, hk1, a1, a2, a3⟩, ?_⟩
      refine ⟨_, rfl, _, rfl, _, rfl, p, _, _, _, rfl, rfl, sq_l h2, first, r, _, _, _, rfl, rfl, sq_t (e1 _ _ hR), atI_nat d4, pt, _, _, _, rfl, rfl, sq_t (e1 _ _ d5), rfl, c, _, rfl, g1, sz1, fun p1 hp1 => ?_⟩
      have np : p1 ≠ p := (ne_of_none h2 hp1).symm
      refine ⟨_, rfl, p1, p, _, _, rfl, rfl, upd_same, by rw [upd_ne np.symm]; exact h2, small (by rw [nI_len, ringL_len]; show 1 + (k + 1) ≤ 100000; omega), fun p2 hp2 => ⟨p2, rfl, (e1.trans (same_new hp1)).trans (same_new hp2), ?_⟩⟩
      rw [upd_same]
      show some (HO.lst (V.int ((e' : Nat) : Int) :: nI (ringL (tv L) st z k))) = some (HO.lst (V.int ((cnOf st (it (tv L) st (k + 1) z) : Nat) : Int) :: nI (ringL (tv L) st z k)))
      rw [f1]
    · have eq : it (tv L) st (k + 1) z = z := by
        by_cases h : it (tv L) st (k + 1) z = z
        · exact h
        · rw [decide_eq_false fun w => h (V.str.inj w)] at ne
          exact absurd rfl ne
      have hkq : k = q - 1 := by
        by_cases h : k + 1 < q
        · exact absurd eq (no (k + 1) (by omega) h)
        · omega
      rw [hkq] at h2
      have hlen : (ringL (tv L) st z (q - 1)).length = q := by rw [ringL_len]; omega
      generalize ringL (tv L) st z (q - 1) = R at h2 nd hQ hlen
      -- start = ring.index(min(ring))
      refine ⟨_, rfl, .inl ⟨rfl, _, sq_l h2⟩, _, rfl, p, R.map fun (k : Nat) => ((k : Nat) : Int), rfl, ?_, by rw [List.length_map]; omega, fun m mm mle => ?_⟩
      · rw [show (R.map fun (k : Nat) => ((k : Nat) : Int)).map V.int = nI R from List.map_map]
        exact sq_l h2
      obtain ⟨k0, m0, rfl⟩ := List.mem_map.mp mm
      obtain ⟨s0, hs0, e0'⟩ := List.getElem_of_mem m0
      have at0 : R[s0]? = some k0 := by rw [List.getElem?_eq_getElem hs0, e0']
      have atI0 : (nI R)[s0]? = some (V.int ((k0 : Nat) : Int)) := by
        unfold nI
        rw [List.getElem?_map, at0]
        rfl
      refine ⟨p, nI R, _, s0, _, rfl, rfl, sq_l h2, rfl, ?_, atI0, ?_, ?_, ?_⟩
      · exact List.all_eq_true.mpr fun x mx => by
          obtain ⟨y, _, rfl⟩ := List.mem_map.mp mx
          rfl
      · exact beq_self_eq_true _
      · intro m' z' lm hz'
        unfold nI at hz'
        rw [List.getElem?_map] at hz'
        cases hm' : R[m']? with
        | none => rw [hm'] at hz'; cases hz'
        | some w' =>
          rw [hm'] at hz'
          rw [← Option.some.inj hz']
          refine beq_eq_false_iff_ne.mpr fun e => ?_
          have e : w' = k0 := by exact Int.ofNat.inj e
          have hl' := (List.getElem?_eq_some_iff.mp hm').1
          refine List.pairwise_iff_getElem.mp nd m' s0 hl' hs0 lm ?_
          rw [e0', ← e]
          exact (List.getElem?_eq_some_iff.mp hm').2
      · -- the two slices
        refine ⟨_, rfl, _, rfl, _, rfl, p, _, rfl, sq_l h2, fun p1 hp1 => ?_⟩
        rw [cut_drop]
        have h2' : (upd H2 p1 (HO.lst ((nI R).drop s0))) p = some (.lst (nI R)) := by rw [upd_ne (ne_of_none h2 hp1)]; exact h2
        refine ⟨_, rfl, _, rfl, _, rfl, p, _, rfl, sq_l h2', fun p2 hp2 => ?_⟩
        rw [cut_take]
        have np : p1 ≠ p2 := ne_of_none upd_same hp2
        refine ⟨p1, p2, _, _, rfl, rfl, by rw [upd_ne np]; exact upd_same, upd_same, ?_, fun p3 hp3 => ?_⟩
        · rw [List.length_drop, List.length_take, nI_len]
          exact small (by omega)
        refine ⟨p3, _, rfl, sq_l upd_same, fun p4 ob hp4 oc od => ?_⟩
        refine hQ _ p4 s0 k0 ((((e1.trans (same_new hp1)).trans (same_new hp2)).trans (same_new hp3)).trans (same_new hp4)) ⟨ob, oc, od, ?_⟩ at0 fun j mj => ?_
        · rw [upd_same, nI_app]
          unfold nI
          rw [List.map_drop, List.map_take]
        · have := mle _ (List.mem_map.mpr ⟨j, mj, rfl⟩)
          omega
end
end Sw
namespace Sw
open PySem PySem.Spec PyProof.Rows L2 Wr WM
abbrev emp : Str := ""
theorem catT_go {K : PySem.W.Frag} {H : Hp} {a b : Addr} {xs ys : List V} {Q : VK} (ha : H a = some (.tup xs)) (hb : H b = some (.tup ys)) (hx : xs ≠ []) (hl : xs.length + ys.length ≤ sizeLine)
    (q : ∀ p H', Same H H' → H' p = some (.tup (xs ++ ys)) → Q (.ref p) H') : rCatT K (.ref a) (.ref b) H Q := by
  refine ⟨a, b, xs, ys, rfl, rfl, sq_t ha, sq_t hb, hx, hl, fun e => ?_, fun _ p hp => q p _ (same_new hp) upd_same⟩
  subst e
  exact q a H (Same.refl _) (by rw [List.append_nil]; exact ha)
/-- told days -/
def DaysAt (H : Hp) (d : Addr) (ns : List Str) (g : Str → Int) : Prop := ∃ PL : List (Addr × Str), H d = some (.tup (PL.map fun q => V.ref q.1)) ∧ PL.map (·.2) = ns ∧ ∀ q ∈ PL, H q.1 = some (.tup [.str q.2, .int (g q.2)])
theorem DaysAt.mono {H H' : Hp} {d : Addr} {ns : List Str} {g : Str → Int} (h : DaysAt H d ns g) (e : Same H H') : DaysAt H' d ns g := by
  obtain ⟨PL, h1, h2, h3⟩ := h
  exact ⟨PL, e _ _ h1, h2, fun q m => e _ _ (h3 q m)⟩
/-- a ring that begins with its least tie -/
structure RingOk (T : List Tie) (l : List Nat) : Prop where
  ring : Ring0 T l
  least : ∀ k0, l[0]? = some k0 → ∀ k ∈ l, k0 ≤ k
def mvV : Option Str → V
  | none => .non
  | some x => .str x
theorem ends_in {T : List Tie} {ns : List Str} (h : Lots T ns) {t : Tie} (m : t ∈ T) : t.1 ∈ emp :: ns ∧ t.2.1 ∈ emp :: ns := by
  constructor
  · by_cases e : t.1 = ""
    · rw [e]; exact List.mem_cons_self
    · exact List.mem_cons_of_mem _ ((h.mem _).mpr ⟨e, t, m, .inl rfl⟩)
  · by_cases e : t.2.1 = ""
    · rw [e]; exact List.mem_cons_self
    · exact List.mem_cons_of_mem _ ((h.mem _).mpr ⟨e, t, m, .inr rfl⟩)
theorem Lots.len {T : List Tie} {ns : List Str} (h : Lots T ns) (ok : TsOk T) : ns.length ≤ 20 := by
  obtain ⟨NL, h1, h2⟩ := ok.nm
  refine Nat.le_trans (nodup_le ns NL h.nd fun x m => ?_) h1
  obtain ⟨_, t, mt, e⟩ := (h.mem x).mp m
  rcases e with rfl | rfl
  · exact (h2 t mt).1
  · exact (h2 t mt).2
theorem Lots.nd0 {T : List Tie} {ns : List Str} (h : Lots T ns) : (emp :: ns).Nodup := List.nodup_cons.mpr ⟨fun m => ((h.mem _).mp m).1 rfl, h.nd⟩
/-- the days and where they came from, as the program holds them -/
def StAt (N : List Str) (H : Hp) (d c : Addr) (st : PS Str) : Prop := H d = some (dS N st.w) ∧ ∃ NC fC, H c = some (dS NC fC) ∧ Came st NC fC ∧ NC.Nodup ∧ ∀ x ∈ NC, x ∈ N
section
variable {P : Program} {w : World} {K : PySem.W.Frag} {mg : Str → Option Value} {base : Heap}
def PlacedTo (H : Hp) (T : List Tie) (ns : List Str) (Q : VK) : Prop :=
  (∀ H' p d h, Same H H' → Feas T h → H' p = some (.tup [.str "days", .ref d]) → DaysAt H' d ns (fun x => h x - h "") → Q (.ref p) H') ∧
  (∀ H' p d l, Same H H' → RingOk T l → (∀ h, ¬ Feas T h) → H' p = some (.tup [.str "ring", .ref d]) → RingAt H' d l → Q (.ref p) H')
def spPlacedR : Sp := fun vs H Q _ => ∃ r n L ns, vs = [.ref r, .ref n] ∧ H r = some (.tup (rf L)) ∧ TiesIn H L ∧ TsOk (tv L) ∧ H n = some (.tup (ns.map V.str)) ∧ Lots (tv L) ns ∧ PlacedTo H (tv L) ns Q
theorem okplaced_rows (T : Tp K mg) : FnOk P w K mg base CX0 2 T.a_placed_rows T.d_placed_rows ["rows", "lots"] spPlacedR := by
  refine T.F_placed_rows.ok scplaced_rows (fun vs H Q E h => ?_) (fun cdv A outer s H vs Q E hr h => ?_)
  · obtain ⟨r, n, L, ns, rfl, _⟩ := h; rfl
  obtain ⟨r, n, L, ns, rfl, hR, hL, ok, hn, lots, hQ1, hQ2⟩ := h
  refine ⟨_, PSs.nox (pss_cons (ps_set (i := 2) scplaced_rows.nd rfl (Or.inr rfl) pe_dnewK)
  (Evl.pss_cut (ps_for PassesOwn.never rfl (pi_tup (pe_op op_catT (pe_tup (pa_cons pe_str pa_nil)) (pe_callTy call_tuple_of (by rfl) T.m_tuple (by decide +kernel) (pa_cons (pv 1) pa_nil)))) (pg_name (i := 3) scplaced_rows.nd rfl (Or.inl rfl)) (pss_one (ps_dput (hu_of hr) (pv 2) (pv 3) pe_int rfl)))
  (pss_cons (ps_set (i := 4) scplaced_rows.nd rfl (Or.inl rfl) pe_dnewK)
  (pss_cons (ps_set (i := 5) scplaced_rows.nd rfl (Or.inl rfl) pe_non)
  (Evl.pss_cut (ps_for PassesOwn.never rfl (pi_range1 (by rfl) T.m_range (pa_cons (pe_callB call_lenD (by rfl) T.m_len PySem.boot_len (pa_cons (pv 2) pa_nil)) pa_nil)) (pg_name (i := 6) scplaced_rows.nd rfl (Or.inl rfl)) (pss_cons (ps_set (i := 5) scplaced_rows.nd rfl (Or.inl rfl) pe_non)
  (pss_cons (ps_for PassesOwn.never rfl (Wr.pi_enumT (by rfl) T.m_enumerate (pa_cons (pv 0) pa_nil)) (pg_tup rfl (pgs_cons (pg_name (i := 7) scplaced_rows.nd rfl (Or.inl rfl)) (pgs_cons (pg_name (i := 8) scplaced_rows.nd rfl (Or.inl rfl)) pgs_nil))) (pss_one (ps_if (pt_cmpR op_gt (pe_dget (hu_of hr) (pv 2) (pe_ix ix_tup (pv 8) pe_int (fun _ _ => rfl)) (fun _ _ => rfl)) (pe_op op_add (pe_dget (hu_of hr) (pv 2) (pe_ix ix_tup (pv 8) pe_int (fun _ _ => rfl)) (fun _ _ => rfl)) (pe_ix ix_tup (pv 8) pe_int (fun _ _ => rfl))) (nomark _)) (pss_cons (ps_dput (hu_of hr) (pv 2) (pe_ix ix_tup (pv 8) pe_int (fun _ _ => rfl)) (pe_op op_add (pe_dget (hu_of hr) (pv 2) (pe_ix ix_tup (pv 8) pe_int (fun _ _ => rfl)) (fun _ _ => rfl)) (pe_ix ix_tup (pv 8) pe_int (fun _ _ => rfl))) rfl)
  (pss_cons (ps_dput (hu_of hr) (pv 4) (pe_ix ix_tup (pv 8) pe_int (fun _ _ => rfl)) (pv 7) rfl)
  (pss_one (ps_set (i := 5) scplaced_rows.nd rfl (Or.inl rfl) (pe_ix ix_tup (pv 8) pe_int (fun _ _ => rfl)))))) pss_nil)))
  (pss_one (ps_if (pt_cmpR op_isN (pv 5) pe_non (nomark _)) (pss_one ps_break) pss_nil)))))
  (pss_cons (ps_if (pt_cmpR op_notN (pv 5) pe_non (nomark _)) (pss_one (ps_ret (pe_tup (pa_cons pe_str (pa_cons (pe_call (okring_behind T) (hr.mono (by decide)) (by rfl) T.g_ring_behind T.F_ring_behind.kp (b_ring_behind T) .nil pass0 (pa_cons (pv 0) (pa_cons (pv 4) (pa_cons (pv 5) (pa_cons (pe_callB call_lenD (by rfl) T.m_len PySem.boot_len (pa_cons (pv 2) pa_nil)) pa_nil))))) pa_nil))))) pss_nil)
  (pss_cons (ps_set (i := 9) scplaced_rows.nd rfl (Or.inr rfl) (pe_call (oklots_in T) (hr.mono (by decide)) (by rfl) T.g_lots_in T.F_lots_in.kp (b_lots_in T) .nil pass0 (pa_cons (pv 0) pa_nil)))
  (pss_one (ps_ret (pe_tup (pa_cons pe_str (pa_cons (pe_callTy call_tuple_of (by rfl) T.m_tuple (by decide +kernel) (pa_cons (pe_lc (own := [("lot", 10)]) (te := (tTup (tCons (tVar 10) (tCons (tIf (tTest (tOp (rIn K false) (tVar 10) (tVar 9))) (tOp _ (tDGet (tVar 2) (tVar 10)) (tDGet (tVar 2) (tC (.str "")))) (tC (.int 0))) tNil)))) (tt := tYes) rfl scplaced_rows.nd (pi_list (pe_callB Wr.cr_sortedST (by rfl) T.m_sorted (by decide +kernel) (pa_cons (pv 1) pa_nil))) (blkOk_by (own := [("lot", 10)]) (N := Nplaced_rows) (sc := defScope splaced_rows) (by decide +kernel)) (fun _ _ _ _ _ => (pg_name (i := 10) scplaced_rows.nd rfl (Or.inl rfl))) (fun _ _ _ _ _ => pts_nil) (fun _ _ _ _ _ => (pe_tup (pa_cons (pv 10) (pa_cons (pe_ifExp (pt_cmpR op_in_seq (pv 10) (pv 9) (by rfl)) (pe_op op_sub (pe_dget (hu_of hr) (pv 2) (pv 10) (fun _ _ => rfl)) (pe_dget (hu_of hr) (pv 2) pe_str (fun _ _ => rfl))) pe_int) pa_nil))))) pa_nil)) pa_nil)))))))))))), ?_⟩
  have nd := lots.nd0
  have h20 := lots.len ok
  intro d hd
  refine ⟨fun σ H1 => ∃ y, σ = [some (.ref r), some (.ref n), some (.ref d), y, none, none, none, none, none, none, none] ∧ Same H H1 ∧ H1 d = some (dS (emp :: ns) fun _ => 0), ?_, ?_⟩
  · -- the names
    have e1 := same_new (o := .dK []) hd
    refine ⟨sz1, fun c1 hc1 => ?_⟩
    have e2 := e1.trans (same_new (o := .tup [.str ""]) hc1)
    refine ⟨_, rfl, n, _, rfl, .inr ⟨sq_t (e2 _ _ hn), ?_⟩⟩
    refine catT_go (K := K) upd_same (e2 _ _ hn) (fun z => nomatch z) (by rw [List.length_map]; exact small (by show 1 + _ ≤ _; omega)) fun c H1 e3 h1 => ⟨c, rfl, ⟨_, sq_t h1⟩, ?_⟩
    have hdn : ([V.str ""] ++ ns.map V.str) = (emp :: ns).map V.str := rfl
    rw [hdn] at h1
    have hdH : H1 d = some (dS [] fun _ => 0) := e3 _ _ (same_new hc1 _ _ upd_same)
    have e4 := e2.trans e3
    refine for_it (walk_tup (xs := (emp :: ns).map V.str)) (fun k σ H2 => ∃ y, σ = [some (.ref r), some (.ref n), some (.ref d), y, none, none, none, none, none, none, none] ∧ Same H H2 ∧ H2 c = some (.tup ((emp :: ns).map V.str)) ∧ H2 d = some (dS ((emp :: ns).take k) fun _ => 0))
      ⟨none, rfl, e4, h1, hdH⟩ (fun _ _ _ _ ⟨_, _, _, p, _⟩ => sq_t p) ?_ ?_
    · rintro k x _ H2 H' hk ⟨y, rfl, f1, f2, f3⟩ ⟨rfl, hx⟩
      obtain ⟨z, hz, rfl⟩ : ∃ z, (emp :: ns)[k]? = some z ∧ x = .str z := by
        rw [List.getElem?_map] at hx
        cases e : (emp :: ns)[k]? with
        | none => rw [e] at hx; cases hx
        | some z => rw [e] at hx; exact ⟨z, rfl, (Option.some.inj hx).symm⟩
      have tk : (emp :: ns).take (k + 1) = (emp :: ns).take k ++ [z] := by rw [List.take_add_one, hz]; rfl
      have zn : z ∉ (emp :: ns).take k := by
        have q := List.Nodup.sublist (List.take_sublist (k + 1) (emp :: ns)) nd
        rw [tk] at q
        exact fun m => (List.nodup_append.mp q).2.2 z m z (List.mem_singleton.mpr rfl) rfl
      have put := dS_put f3 z 0 (by rw [List.length_take, List.length_cons]; omega)
      refine ⟨_, rfl, _, rfl, d, _, rfl, put, some (.str z), rfl, same_mut f1 hd, ?_, ?_⟩
      · rw [upd_ne (ne_of f2 f3 (fun z => HO.noConfusion z))]; exact f2
      · rw [upd_same, tk]
        unfold addN
        rw [if_neg zn]
        refine congrArg (fun f => some (dS _ f)) (funext fun x => ?_)
        unfold setF
        split <;> rfl
    · rintro _ H2 ⟨y, rfl, f1, f2, f3⟩
      rw [List.length_map, List.take_length] at f3
      exact ⟨y, rfl, f1, f3⟩
  · rintro _ H1 ⟨y3, rfl, f1, f2⟩
    intro c hc
    have neT : ∀ a b m, (a, b, m) ∈ tv L → a ≠ b := fun a b m q => (ok.ok _ q).ne
    have few := ok.few
    have hNl : (emp :: ns).length = ns.length + 1 := List.length_cons
    have dnc : d ≠ c := ne_of_none f2 hc
    have zero : StAt (emp :: ns) (upd H1 c (HO.dK [])) d c (prounds (tv L) 0) := ⟨same_new hc _ _ f2, [], (fun _ => 0), upd_same, (show Came _ _ _ from fun v e q => absurd (show (none : Option Nat) = some e from q) (fun z => nomatch z)), List.nodup_nil, fun _ m => absurd m List.not_mem_nil⟩
    have f3 := f1.trans (same_new (o := .dK []) hc)
    -- the slots
    let S (mv : V) (y3 y6 y7 y8 : Option V) : L2.St := [some (.ref r), some (.ref n), some (.ref d), y3, some (.ref c), some mv, y6, y7, y8, none, none]
    let M (mv : V) (st : PS Str) (σ : L2.St) (H2 : Hp) : Prop := ∃ y3 y6 y7 y8, σ = S mv y3 y6 y7 y8 ∧ Same H H2 ∧ StAt (emp :: ns) H2 d c st
    refine ⟨fun σ H2 => (∃ st, M .non st σ H2 ∧ Feas (tv L) st.w) ∨ ∃ x, M (.str x) (prounds (tv L) (emp :: ns).length) σ H2 ∧ (prounds (tv L) (emp :: ns).length).mv = some x, ?_, ?_⟩
    · refine ⟨_, rfl, d, _, rfl, same_new hc _ _ f2, ((kvs kS (emp :: ns) fun _ => 0).length : Int), rfl, by rw [kvs_len]; omega, by rw [kvs_len]; omega, ?_⟩
      rw [show (((kvs kS (emp :: ns) fun _ => 0).length : Nat) : Int).toNat = (emp :: ns).length by rw [Int.toNat_natCast, kvs_len]]
      refine for_it (walk_range (lo := 0) (n := (emp :: ns).length)) (fun k σ H2 => ∃ mv, M mv (prounds (tv L) k) σ H2 ∧ (k = 0 ∨ ∃ x, mv = .str x ∧ (prounds (tv L) k).mv = some x)) ⟨.non, ⟨y3, none, none, none, rfl, f3, zero⟩, .inl rfl⟩ (fun _ _ _ _ _ => trivial) ?_ ?_
      · rintro k v _ H2 H2' hk ⟨mv, ⟨z3, z6, z7, z8, rfl, g1, g2⟩, _⟩ ⟨rfl, rfl⟩
        refine ⟨_, rfl, r, rf L, rfl, sq_t (g1 _ _ hR), ?_⟩
        refine for_it (walk_enumT (xs := rf L)) (fun i σ H3 => M (mvV (pround ((tv L).take i) 0 (k * (tv L).length) (fresh (prounds (tv L) k))).mv) (pround ((tv L).take i) 0 (k * (tv L).length) (fresh (prounds (tv L) k))) σ H3)
          ⟨z3, _, z7, z8, rfl, g1, g2⟩ (fun _ _ _ _ ⟨_, _, _, _, _, p, _⟩ => sq_t (p _ _ hR)) ?_ ?_
        · rintro i v _ H3 H3' hi ⟨w3, w6, w7, w8, rfl, k1, k2⟩ ⟨tp, x1, x2, rfl, ntp, rfl, hx1, hx2⟩
          obtain ⟨⟨p, t⟩, hq, rfl⟩ := rf_at hx2
          have mt : t ∈ tv L := List.mem_of_getElem? (at_tv hq)
          have tk : (tv L).take (i + 1) = (tv L).take i ++ [t] := by rw [List.take_add_one, at_tv hq]; rfl
          have hti : ((tv L).take i).length = i := by
            rw [List.length_take, tv_len]
            rw [rf_len] at hi
            omega
          rw [tk, pround_snoc, hti, Nat.zero_add]
          generalize pround ((tv L).take i) 0 (k * (tv L).length) (fresh (prounds (tv L) k)) = st at k2 ⊢
          generalize k * (tv L).length + i + 1 = tm
          obtain ⟨p1, NC, fC, p2, p3, p4, p5⟩ := k2
          have k3 := k1.trans (same_new (o := .tup [x1, .ref p]) ntp)
          have hp := k3 _ _ (hL.at_ hq)
          have hdd : (upd H3 tp (HO.tup [x1, .ref p])) d = some (dS (emp :: ns) st.w) := same_new ntp _ _ p1
          have hcc : (upd H3 tp (HO.tup [x1, .ref p])) c = some (dS NC fC) := same_new ntp _ _ p2
          have hx1 : x1 = .int ((i : Nat) : Int) := (Option.some.inj hx1).symm
          subst hx1
          have en := ends_in lots mt
          have htp : (upd H3 tp (HO.tup [V.int ((i : Nat) : Int), .ref p])) tp = some (HO.tup [V.int ((i : Nat) : Int), .ref p]) := upd_same
          generalize upd H3 tp (HO.tup [V.int ((i : Nat) : Int), .ref p]) = H4 at htp k3 hp hdd hcc ⊢
          refine ⟨tp, _, rfl, sq_t htp, rfl, _, _, rfl, _, _, rfl, rfl, ?_⟩
          refine ⟨_, rfl, _, rfl, p, _, _, _, rfl, rfl, sq_t hp, rfl, d, _, rfl, dS_has hdd en.2, _, rfl, _, rfl, p, _, _, _, rfl, rfl, sq_t hp, rfl, d, _, rfl, dS_has hdd en.1, _, rfl, p, _, _, _, rfl, rfl, sq_t hp, rfl, _, _, rfl, rfl, _, _, rfl, rfl, _, rfl, ite2 (fun lt => ?_) (fun lt => ?_)⟩
          · have lt : st.w t.1 + t.2.2 < st.w t.2.1 := of_decide_eq_true lt
            have put1 := dS_put hdd t.2.1 (st.w t.1 + t.2.2) (by omega)
            rw [show addN (emp :: ns) t.2.1 = emp :: ns from if_pos en.2] at put1
            have ncl : NC.length ≤ ns.length + 1 := by rw [← hNl]; exact nodup_le NC _ p4 p5
            have hpd : p ≠ d := ne_of hp hdd (fun z => HO.noConfusion z)
            have hpc : p ≠ c := ne_of hp hcc (fun z => HO.noConfusion z)
            have hcc2 : (upd H4 d (dS (emp :: ns) (setF st.w t.2.1 (st.w t.1 + t.2.2)))) c = some (dS NC fC) := by rw [upd_ne dnc.symm]; exact hcc
            have hp2 : (upd H4 d (dS (emp :: ns) (setF st.w t.2.1 (st.w t.1 + t.2.2)))) p = some (tieO t) := by rw [upd_ne hpd]; exact hp
            have put2 := dS_put hcc2 t.2.1 ((i : Nat) : Int) (by omega)
            have hp3 : (upd (upd H4 d (dS (emp :: ns) (setF st.w t.2.1 (st.w t.1 + t.2.2)))) c (dS (addN NC t.2.1) (setF fC t.2.1 ((i : Nat) : Int)))) p = some (tieO t) := by rw [upd_ne hpc]; exact hp2
            refine ⟨_, rfl, _, rfl, p, _, _, _, rfl, rfl, sq_t hp, rfl, d, _, rfl, dS_has hdd en.1, _, rfl, p, _, _, _, rfl, rfl, sq_t hp, rfl, _, _, rfl, rfl, _, rfl, _, rfl, p, _, _, _, rfl, rfl, sq_t hp, rfl, d, _, rfl, put1, ?_⟩
            refine ⟨_, rfl, _, rfl, _, rfl, p, _, _, _, rfl, rfl, sq_t hp2, rfl, c, _, rfl, put2, _, rfl, p, _, _, _, rfl, rfl, sq_t hp3, rfl, ?_⟩
            have pw : (pstep tm st i t).w = setF st.w t.2.1 (st.w t.1 + t.2.2) := by
              unfold pstep
              rw [if_pos lt]
              funext v
              unfold setF
              dsimp only
              by_cases z : v = t.2.1
              · rw [if_pos z, if_pos z]
              · rw [if_neg z, if_neg z]
            have pc : ∀ v e, (pstep tm st i t).c v = some e → v = t.2.1 ∧ e = i ∨ v ≠ t.2.1 ∧ st.c v = some e := by
              intro v e q
              unfold pstep at q
              rw [if_pos lt] at q
              dsimp only at q
              by_cases z : v = t.2.1
              · rw [if_pos z] at q
                exact .inl ⟨z, (Option.some.inj q).symm⟩
              · rw [if_neg z] at q
                exact .inr ⟨z, q⟩
            have pm : (pstep tm st i t).mv = some t.2.1 := by
              unfold pstep
              rw [if_pos lt]
            generalize pstep tm st i t = s2 at pw pc pm ⊢
            obtain ⟨w2, c2, t2, m2⟩ := s2
            dsimp only at pw pc pm
            subst pw pm
            refine ⟨w3, _, _, _, rfl, same_mut (same_mut k3 hd) (Same.free f1 hc), ?_, addN NC t.2.1, setF fC t.2.1 ((i : Nat) : Int), upd_same, fun v e q => ?_, addN_nd p4 _, fun x m => ?_⟩
            · rw [upd_ne dnc, upd_same]
            · rcases pc v e q with ⟨z, rfl⟩ | ⟨z, q⟩
              · rw [z]
                exact ⟨mem_addN.mpr (.inr rfl), if_pos rfl⟩
              · obtain ⟨q1, q2⟩ := p3 v e q
                refine ⟨mem_addN.mpr (.inl q1), ?_⟩
                rw [← q2]
                exact if_neg z
            · rcases mem_addN.mp m with m | rfl
              · exact p5 x m
              · exact en.2
          · have ps : pstep tm st i t = st := by
              unfold pstep
              rw [if_neg fun z => lt (decide_eq_true z)]
            rw [ps]
            exact ⟨w3, _, _, _, rfl, k3, hdd, NC, fC, hcc, p3, p4, p5⟩
        · rintro _ H3 ⟨w3, w6, w7, w8, rfl, k1, k2⟩
          have full : (tv L).take (rf L).length = tv L := by rw [rf_len, ← tv_len, List.take_length]
          rw [full] at k2 ⊢
          have pk : pround (tv L) 0 (k * (tv L).length) (fresh (prounds (tv L) k)) = prounds (tv L) (k + 1) := rfl
          rw [pk] at k2 ⊢
          refine ⟨_, rfl, rfl, _, rfl, ite2 (fun e => ?_) (fun e => ?_)⟩
          · have em : (prounds (tv L) (k + 1)).mv = none := by
              cases q : (prounds (tv L) (k + 1)).mv with
              | none => rfl
              | some x => rw [q] at e; exact absurd (of_decide_eq_true e) (fun z => nomatch z)
            refine .inl ⟨prounds (tv L) (k + 1), ?_, prounds_days em⟩
            rw [em]
            exact ⟨w3, w6, w7, w8, rfl, k1, k2⟩
          · cases q : (prounds (tv L) (k + 1)).mv with
            | none => rw [q] at e; exact absurd (decide_eq_true rfl) e
            | some x => exact ⟨.str x, ⟨w3, w6, w7, w8, rfl, k1, k2⟩, .inr ⟨x, rfl, rfl⟩⟩
      · rintro _ H2 ⟨mv, hm, z | ⟨x, rfl, hx⟩⟩
        · exact absurd z (by rw [hNl]; omega)
        · exact .inr ⟨x, hm, hx⟩
    · rintro _ H2 (⟨st, ⟨z3, z6, z7, z8, rfl, g1, g2⟩, fe⟩ | ⟨x, ⟨z3, z6, z7, z8, rfl, g1, g2⟩, hx⟩)
      · -- days
        refine ⟨_, rfl, rfl, _, rfl, iteF ?_⟩
        refine ⟨_, rfl, r, L, rfl, sq_t (g1 _ _ hR), hL.mono g1, ok, fun H3 td ns2 g3 h3 lots2 => ?_⟩
        rw [lots2.uniq lots] at h3
        clear lots2
        have g4 := g1.trans g3
        have srtd : ∀ ys : List Str, ys.Perm ns → sortedS ys = true → ys = ns := fun ys h1 h2 => sorted_one ys ns h2 lots.srt h1
        refine ⟨_, rfl, n, ns, rfl, sq_t (g4 _ _ hn), by omega, fun ys sp hperm hs hsp => ?_⟩
        rw [srtd ys hperm hs]
        clear hperm hs
        refine ⟨sp, rfl, ⟨_, sq_l upd_same⟩, fun D hD => ?_⟩
        have g5 := g4.trans (same_new (o := .lst (ns.map V.str)) hsp)
        have hs3 : (upd H3 sp (.lst (ns.map V.str))) sp = some (.lst (ns.map V.str)) := upd_same
        have ht3 := same_new (o := .lst (ns.map V.str)) hsp _ _ h3
        have hd3 : (upd H3 sp (.lst (ns.map V.str))) d = some (dS (emp :: ns) st.w) := same_new hsp _ _ (g3 _ _ g2.1)
        generalize upd H3 sp (.lst (ns.map V.str)) = G at g5 hs3 ht3 hd3 hD ⊢
        refine lc_it (walk_list (xs := ns.map V.str)) (fun i H' => Same G H' ∧ ∃ PL : List (Addr × Str), H' D = some (.lst (PL.map fun q => V.ref q.1)) ∧ PL.map (·.2) = ns.take i ∧ ∀ q ∈ PL, H' q.1 = some (.tup [.str q.2, .int (st.w q.2 - st.w "")]))
          ⟨same_new hD, [], upd_same, rfl, fun _ m => absurd m List.not_mem_nil⟩ (fun _ _ _ p => sq_l (p.1 _ _ hs3)) ?_ ?_
        · rintro i v H4 H4' hi ⟨k1, PL, k2, k3, k4⟩ ⟨rfl, hv⟩
          obtain ⟨z, hz, rfl⟩ : ∃ z, ns[i]? = some z ∧ v = .str z := by
            rw [List.getElem?_map] at hv
            cases e : ns[i]? with
            | none => rw [e] at hv; cases hv
            | some z => rw [e] at hv; exact ⟨z, rfl, (Option.some.inj hv).symm⟩
          have zm : z ∈ ns := List.mem_of_getElem? hz
          have tk : ns.take (i + 1) = ns.take i ++ [z] := by rw [List.take_add_one, hz]; rfl
          have hPl : PL.length ≤ 20 := by
            have q := congrArg List.length k3
            rw [List.length_map, List.length_take] at q
            omega
          refine ⟨rfl, ?_⟩
          refine ⟨_, rfl, _, rfl, _, rfl, td, _, rfl, .inr (sq_t (k1 _ _ ht3)), rfl, strs_flat _, true, ?_, ?_⟩
          · show V.bl (inV (.str z) (ns.map V.str)) = _
            rw [inV_strs, decide_eq_true zm]
          refine ⟨_, rfl, _, rfl, d, _, rfl, dS_has (k1 _ _ hd3) (List.mem_cons_of_mem _ zm), _, rfl, d, _, rfl, dS_has (k1 _ _ hd3) List.mem_cons_self, _, _, rfl, rfl, sz2, fun q hq => ?_⟩
          have nq : D ≠ q := ne_of_none k2 hq
          refine ⟨_, by rw [upd_ne nq]; exact k2, small' (by rw [List.length_map]; omega), same_mut (k1.trans (same_new hq)) hD, PL ++ [(q, z)], ?_, ?_, ?_⟩
          · rw [upd_same, List.map_append]; rfl
          · rw [List.map_append, k3, tk]; rfl
          · intro q' m
            rcases List.mem_append.mp m with m | m
            · have e := k4 q' m
              rw [upd_ne (ne_of e k2 (fun z => HO.noConfusion z)), upd_ne (ne_of_none e hq)]
              exact e
            · rw [List.mem_singleton.mp m, upd_ne nq.symm]
              exact upd_same
        · rintro H4 ⟨k1, PL, k2, k3, k4⟩
          rw [List.length_map, List.take_length] at k3
          refine ⟨D, _, rfl, .inl ⟨sq_l k2, fun p hp => ?_⟩⟩
          refine ⟨sz2, fun p2 hp2 => ?_⟩
          have l1 := same_new (o := .tup (PL.map fun q => V.ref q.1)) hp
          have l2 := same_new (o := .tup [.str "days", .ref p]) hp2
          refine hQ1 _ p2 p st.w (((g5.trans k1).trans l1).trans l2) fe upd_same ⟨PL, l2 _ _ upd_same, k3, fun q m => l2 _ _ (l1 _ _ (k4 q m))⟩
      · -- a ring
        refine ⟨_, rfl, rfl, _, rfl, iteT ?_⟩
        have hTin : ∀ a b m, (a, b, m) ∈ tv L → a ∈ emp :: ns ∧ b ∈ emp :: ns := fun a b m q => ends_in lots q
        have I : PI (tv L) ns.length (tv L).length (prounds (tv L) (ns.length + 1)) := pi_rounds neT ns.length
        rw [hNl] at g2 hx
        obtain ⟨q, B⟩ := back_of (V := ns.length + 1) (L := emp :: ns) neT hTin (by rw [hNl]; exact Nat.le_refl _) (by omega) I hx
        have R := ring0 I neT B
        have hlen := ringL_len (T := tv L) (st := prounds (tv L) (ns.length + 1)) (it (tv L) (prounds (tv L) (ns.length + 1)) (ns.length + 1) x) (q - 1)
        have hq : q ≤ 100 := by
          have z := nodup_le _ (List.range (tv L).length) R.nd fun k m => List.mem_range.mpr (R.lt k m)
          rw [hlen, List.length_range] at z
          omega
        have none_ : ∀ h, ¬ Feas (tv L) h := fun h => ring_none I neT B
        obtain ⟨p1, NC, fC, p2, p3, p4, p5⟩ := g2
        refine ⟨_, rfl, _, rfl, _, rfl, _, rfl, d, _, rfl, p1, ?_⟩
        refine ⟨r, c, L, NC, fC, prounds (tv L) (ns.length + 1), x, ns.length + 1, q, ?_, g1 _ _ hR, hL.mono g1, p2, p3, B, by omega, by omega, R.nd, fun H3 rp s0 k0 g3 h3 h4 h5 => ?_⟩
        · rw [kvs_len, hNl]
          rfl
        · refine ⟨sz2, fun p hp => ?_⟩
          have l1 := same_new (o := .tup [.str "ring", .ref rp]) hp
          have hs := (List.getElem?_eq_some_iff.mp h4).1
          refine hQ2 _ p rp _ ((g1.trans g3).trans l1) ⟨R.turn hs, fun k1 e k m => ?_⟩ none_ upd_same (h3.mono l1)
          rw [turn_at _ hs (by omega), Nat.zero_add, Nat.mod_eq_of_lt hs, h4] at e
          rw [← Option.some.inj e]
          refine h5 k ?_
          rcases List.mem_append.mp m with m | m
          · exact List.mem_of_mem_drop m
          · exact List.mem_of_mem_take m
end
end Sw
namespace Sw
open PySem PySem.Spec PyProof.Rows L2 Wr WM
/-! ### tables: dicts with pairs of names as keys -/
/-- at d the dict that holds just what F tells, its keys pairs of the names -/
def DT (names : List Str) (H : Hp) (d : Addr) (F : Tab Str) : Prop :=
  ∃ N f, H d = some (dP N f) ∧ N.Nodup ∧ (∀ p ∈ N, p.1 ∈ names ∧ p.2 ∈ names) ∧ ∀ a b, tb N f (a, b) = F a b
theorem DT.mono {names : List Str} {H H' : Hp} {d : Addr} {F : Tab Str} (h : DT names H d F) (e : Same H H') : DT names H' d F := by
  obtain ⟨N, f, h1, h2, h3, h4⟩ := h
  exact ⟨N, f, e _ _ h1, h2, h3, h4⟩
theorem pairs_len (names : List Str) : ∀ l : List Str, (l.flatMap fun a => names.map fun b => (a, b)).length = l.length * names.length
  | [] => by simp
  | a :: l => by
    rw [List.flatMap_cons, List.length_append, List.length_map, pairs_len names l, List.length_cons, Nat.succ_mul, Nat.add_comm]
theorem few_pairs {names : List Str} {N : List (Str × Str)} (nd : N.Nodup) (h : ∀ p ∈ N, p.1 ∈ names ∧ p.2 ∈ names) : N.length ≤ names.length * names.length := by
  rw [← pairs_len names names]
  refine nodup_le N _ nd fun p m => ?_
  obtain ⟨a, b⟩ := p
  exact List.mem_flatMap.mpr ⟨a, (h _ m).1, List.mem_map.mpr ⟨b, (h _ m).2, rfl⟩⟩
theorem few_pairs' {names : List Str} {N : List (Str × Str)} (hn : names.length ≤ 100) (nd : N.Nodup) (h : ∀ p ∈ N, p.1 ∈ names ∧ p.2 ∈ names) : N.length ≤ 10000 :=
  Nat.le_trans (few_pairs nd h) (Nat.le_trans (Nat.mul_le_mul hn hn) (by decide))
theorem DT.get {names : List Str} {H : Hp} {d t : Addr} {F : Tab Str} {a b : Str} (h : DT names H d F) (ht : H t = some (.tup [.str a, .str b])) : DGet H d (.ref t) ((F a b).map V.int) := by
  obtain ⟨N, f, h1, h2, h3, h4⟩ := h
  rw [← h4]
  exact dP_get h1 ht
theorem DT.has {names : List Str} {H : Hp} {d t : Addr} {F : Tab Str} {a b : Str} {v : Int} (h : DT names H d F) (ht : H t = some (.tup [.str a, .str b])) (e : F a b = some v) : DGet H d (.ref t) (some (.int v)) := by
  have q := h.get ht
  rwa [e] at q
theorem DT.put {names : List Str} {H : Hp} {d t : Addr} {F : Tab Str} {a b : Str} (h : DT names H d F) (ht : H t = some (.tup [.str a, .str b])) (hn : names.length ≤ 100) (ha : a ∈ names) (hb : b ∈ names) (v : Int) :
    ∃ o, DPut H d (.ref t) (.int v) (upd H d o) ∧ DT names (upd H d o) d (setT F a b v) := by
  obtain ⟨N, f, h1, h2, h3, h4⟩ := h
  have hl := few_pairs' hn h2 h3
  refine ⟨_, dP_put h1 ht v (by omega), addN N (a, b), setF f (a, b) v, upd_same, addN_nd h2 _, fun p m => ?_, fun x y => ?_⟩
  · rcases mem_addN.mp m with m | rfl
    · exact h3 p m
    · exact ⟨ha, hb⟩
  · rw [tb_set]
    dsimp only
    by_cases e : x = a ∧ y = b
    · obtain ⟨rfl, rfl⟩ := e
      rw [if_pos rfl, setT_at]
    · rw [if_neg fun z => e ⟨congrArg Prod.fst z, congrArg Prod.snd z⟩, setT_ne e, h4]
theorem DT.isD {names : List Str} {H : Hp} {d : Addr} {F : Tab Str} (h : DT names H d F) : ∃ N f, H d = some (dP N f) := by
  obtain ⟨N, f, h1, _⟩ := h
  exact ⟨N, f, h1⟩
theorem DT.ne {names : List Str} {H : Hp} {d p : Addr} {F : Tab Str} {xs : List V} (h : DT names H d F) (hp : H p = some (.tup xs)) : p ≠ d := by
  obtain ⟨N, f, h1, _⟩ := h
  exact ne_of hp h1 (fun z => HO.noConfusion z)
theorem DT.nil {names : List Str} {H : Hp} {d : Addr} (h : H d = some (.dT [])) : DT names H d (fun _ _ => none) := ⟨[], fun _ => 0, h, List.nodup_nil, fun _ m => absurd m List.not_mem_nil, fun _ _ => rfl⟩
theorem DT.eq {names : List Str} {H : Hp} {d : Addr} {F G : Tab Str} (h : DT names H d F) (e : F = G) : DT names H d G := e ▸ h
theorem names_at {ns : List Str} {i : Nat} {x : V} (h : (ns.map V.str)[i]? = some x) : ∃ z, ns[i]? = some z ∧ x = .str z := by
  rw [List.getElem?_map] at h
  cases e : ns[i]? with
  | none => rw [e] at h; cases h
  | some z => rw [e] at h; exact ⟨z, rfl, (Option.some.inj h).symm⟩
theorem take_one {α : Type} {l : List α} {i : Nat} {x : α} (h : l[i]? = some x) : l.take (i + 1) = l.take i ++ [x] := by
  rw [List.take_add_one, h]
  rfl
theorem fold_one {α β : Type} {g : β → α → β} {b : β} {l : List α} {i : Nat} {x : α} (h : l[i]? = some x) : (l.take (i + 1)).foldl g b = g ((l.take i).foldl g b) x := by
  rw [take_one h, List.foldl_append]
  rfl
/-- the store of v at a key that was just made -/
theorem put_go {names : List Str} {H0 H : Hp} {d t : Addr} {F : Tab Str} {a b : Str} {v : Int} {R : Hp → Prop} (few : names.length ≤ 100) (ha : a ∈ names) (hb : b ∈ names) (hd : H0 d = none) (e0 : Same H0 H) (h : DT names H d F) (ht : H t = none)
    (q : ∀ H', Same H0 H' → DT names H' d (setT F a b v) → R H') : ∃ x H4, V.ref d = .ref x ∧ DPut (upd H t (.tup [.str a, .str b])) x (.ref t) (.int v) H4 ∧ R H4 := by
  obtain ⟨o, p1, p2⟩ := (h.mono (same_new ht)).put upd_same few ha hb v
  exact ⟨d, _, rfl, p1, q _ (same_mut (e0.trans (same_new ht)) hd) p2⟩
section
variable {P : Program} {w : World} {K : PySem.W.Frag} {mg : Str → Option Value} {base : Heap}
/-! ### placed -/
def spPlaced (C : Addr) : Sp := fun vs H Q _ => ∃ a L, vs = [.ref a] ∧ BoxAt C H a L ∧ TsOk (tv L) ∧ ∀ ns, Lots (tv L) ns → PlacedTo H (tv L) ns Q
theorem PlacedTo.mono {H H' : Hp} {T : List Tie} {ns : List Str} {Q : VK} (h : PlacedTo H T ns Q) (e : Same H H') : PlacedTo H' T ns Q :=
  ⟨fun H2 p d h2 a => h.1 H2 p d h2 (e.trans a), fun H2 p d l a => h.2 H2 p d l (e.trans a)⟩
theorem okplaced (T : Tp K mg) : FnOk P w K mg base CX0 4 T.a_placed T.d_placed ["ties"] (spPlaced T.a_Ties) := by
  refine T.F_placed.ok scplaced (fun vs H Q E h => ?_) (fun cdv A outer s H vs Q E hr h => ?_)
  · obtain ⟨a, L, rfl, _⟩ := h; rfl
  obtain ⟨a, L, rfl, hb, ok, q⟩ := h
  refine ⟨_, PSs.nox (pss_one (ps_ret (pe_call (okplaced_rows T) (hr.mono (by decide)) (by rfl) T.g_placed_rows T.F_placed_rows.kp (b_placed_rows T) .nil pass0 (pa_cons (pe_fld (pv 0) rfl) (pa_cons (pe_prop (pv 0) T.cl_Ties T.pr_lots (okTieslots T) (hr.mono (by decide)) (b_Tieslots T) .nil pass0 rfl) pa_nil))))), ?_⟩
  have ⟨dx, r, h1, h2, h3⟩ := hb
  refine ⟨_, rfl, a, _, dx, _, _, rfl, h1, T.cl_Ties, T.na_rows, rfl, _, rfl, a, dx, _, rfl, h1, a, L, rfl, hb, ok, fun H1 p ns e1 hp lots => ?_⟩
  exact ⟨r, p, L, ns, rfl, e1 _ _ h2, h3.mono e1, ok, hp, lots, (q ns lots).mono e1⟩
/-! ### least_ties -/
def spLeast : Sp := fun vs H Q _ => ∃ r n L names, vs = [.ref r, .ref n] ∧ H r = some (.tup (rf L)) ∧ TiesIn H L ∧ H n = some (.tup (names.map V.str)) ∧ (∀ t ∈ tv L, t.1 ∈ names ∧ t.2.1 ∈ names) ∧ names.length ≤ 100 ∧
  ∀ H' d, Same H H' → DT names H' d (fw (tv L) names) → Q (.ref d) H'
theorem okleast_ties (T : Tp K mg) : FnOk P w K mg base CX0 1 T.a_least_ties T.d_least_ties ["rows", "names"] spLeast := by
  refine T.F_least_ties.ok scleast_ties (fun vs H Q E h => ?_) (fun cdv A outer s H vs Q E hr h => ?_)
  · obtain ⟨r, n, L, names, rfl, _⟩ := h; rfl
  obtain ⟨r, n, L, names, rfl, hR, hL, hn, hT, few, q⟩ := h
  refine ⟨_, PSs.nox (pss_cons (ps_set (i := 2) scleast_ties.nd rfl (Or.inl rfl) pe_dnewT)
  (pss_cons (ps_for PassesOwn.never rfl (pi_tup (pv 1)) (pg_name (i := 3) scleast_ties.nd rfl (Or.inl rfl)) (pss_one (ps_dput (hu_of hr) (pv 2) (pe_tup (pa_cons (pv 3) (pa_cons (pv 3) pa_nil))) pe_int rfl)))
  (pss_cons (ps_for PassesOwn.never rfl (pi_tup (pv 0)) (pg_tup rfl (pgs_cons (pg_name (i := 4) scleast_ties.nd rfl (Or.inl rfl)) (pgs_cons (pg_name (i := 5) scleast_ties.nd rfl (Or.inl rfl)) (pgs_cons (pg_name (i := 6) scleast_ties.nd rfl (Or.inl rfl)) pgs_nil)))) (pss_one (ps_if (PW.pt (pw_or (pt_cmp (pc_dnotin (hu_of hr) (pe_tup (pa_cons (pv 4) (pa_cons (pv 5) pa_nil))) (pv 2))) (pw_or1 (pt_cmpR op_lt (pv 6) (pe_dget (hu_of hr) (pv 2) (pe_tup (pa_cons (pv 4) (pa_cons (pv 5) pa_nil))) (fun _ _ => rfl)) (nomark _))))) (pss_one (ps_dput (hu_of hr) (pv 2) (pe_tup (pa_cons (pv 4) (pa_cons (pv 5) pa_nil))) (pv 6) rfl)) pss_nil)))
  (pss_cons (ps_for PassesOwn.never rfl (pi_tup (pv 1)) (pg_name (i := 7) scleast_ties.nd rfl (Or.inl rfl)) (pss_one (ps_for PassesOwn.never rfl (pi_tup (pv 1)) (pg_name (i := 4) scleast_ties.nd rfl (Or.inl rfl)) (pss_one (ps_for PassesOwn.never rfl (pi_tup (pv 1)) (pg_name (i := 5) scleast_ties.nd rfl (Or.inl rfl)) (pss_one (ps_if (PW.pt (pw_and (pt_cmp (pc_din (hu_of hr) (pe_tup (pa_cons (pv 4) (pa_cons (pv 7) pa_nil))) (pv 2))) (pw_and1 (pt_cmp (pc_din (hu_of hr) (pe_tup (pa_cons (pv 7) (pa_cons (pv 5) pa_nil))) (pv 2)))))) (pss_cons (ps_set (i := 6) scleast_ties.nd rfl (Or.inl rfl) (pe_op op_add (pe_dget (hu_of hr) (pv 2) (pe_tup (pa_cons (pv 4) (pa_cons (pv 7) pa_nil))) (fun _ _ => rfl)) (pe_dget (hu_of hr) (pv 2) (pe_tup (pa_cons (pv 7) (pa_cons (pv 5) pa_nil))) (fun _ _ => rfl))))
  (pss_one (ps_if (PW.pt (pw_or (pt_cmp (pc_dnotin (hu_of hr) (pe_tup (pa_cons (pv 4) (pa_cons (pv 5) pa_nil))) (pv 2))) (pw_or1 (pt_cmpR op_lt (pv 6) (pe_dget (hu_of hr) (pv 2) (pe_tup (pa_cons (pv 4) (pa_cons (pv 5) pa_nil))) (fun _ _ => rfl)) (nomark _))))) (pss_one (ps_dput (hu_of hr) (pv 2) (pe_tup (pa_cons (pv 4) (pa_cons (pv 5) pa_nil))) (pv 6) rfl)) pss_nil))) pss_nil)))))))
  (pss_one (ps_ret (pv 2))))))), ?_⟩
  intro d hd
  have e0 := same_new (o := .dT []) hd
  let S (y3 y4 y5 y6 y7 : Option V) : L2.St := [some (.ref r), some (.ref n), some (.ref d), y3, y4, y5, y6, y7]
  let M (F : Tab Str) (H' : Hp) : Prop := Same H H' ∧ DT names H' d F
  -- the names by themselves
  refine ⟨_, rfl, n, rfl, ⟨_, sq_t (e0 _ _ hn)⟩, ?_⟩
  refine for_it (walk_tup (xs := names.map V.str)) (fun k σ H1 => ∃ y3, σ = S y3 none none none none ∧ M (eye (names.take k)) H1) ⟨none, rfl, e0, ?_⟩ (fun _ _ _ _ ⟨_, _, p, _⟩ => sq_t (p _ _ hn)) ?_ ?_
  · refine (DT.nil upd_same).eq (funext fun x => funext fun y => ?_)
    unfold eye
    rw [if_neg fun z => List.not_mem_nil z.2]
  · rintro k x _ H1 H1' hk ⟨y3, rfl, k1, k2⟩ ⟨rfl, hx⟩
    obtain ⟨z, hz, rfl⟩ := names_at hx
    have zm := List.mem_of_getElem? hz
    refine ⟨_, rfl, _, rfl, _, rfl, sz2, fun t ht => ?_⟩
    have k3 := k2.mono (same_new (o := .tup [.str z, .str z]) ht)
    obtain ⟨o, p1, p2⟩ := k3.put upd_same few zm zm 0
    refine ⟨d, _, rfl, p1, _, rfl, same_mut (k1.trans (same_new ht)) hd, p2.eq ?_⟩
    rw [take_one hz]
    funext a b
    unfold eye
    by_cases e : a = z ∧ b = z
    · obtain ⟨rfl, rfl⟩ := e
      rw [setT_at, if_pos ⟨rfl, List.mem_append_right _ (List.mem_singleton.mpr rfl)⟩]
    · rw [setT_ne e]
      by_cases e2 : a = b ∧ a ∈ names.take k
      · rw [if_pos e2, if_pos ⟨e2.1, List.mem_append_left _ e2.2⟩]
      · rw [if_neg e2, if_neg]
        rintro ⟨rfl, m⟩
        rcases List.mem_append.mp m with m | m
        · exact e2 ⟨rfl, m⟩
        · exact e ⟨List.mem_singleton.mp m, List.mem_singleton.mp m⟩
  · rintro _ H1 ⟨y3, rfl, k1, k2⟩
    rw [List.length_map, List.take_length] at k2
    -- the ties
    refine ⟨_, rfl, r, rfl, ⟨_, sq_t (k1 _ _ hR)⟩, ?_⟩
    refine for_it (walk_tup (xs := rf L)) (fun i σ H2 => ∃ y4 y5 y6, σ = S y3 y4 y5 y6 none ∧ M (((tv L).take i).foldl tie2 (eye names)) H2) ⟨none, none, none, rfl, k1, k2⟩ (fun _ _ _ _ ⟨_, _, _, _, p, _⟩ => sq_t (p _ _ hR)) ?_ ?_
    · rintro i x _ H2 H2' hi ⟨y4, y5, y6, rfl, m1, m2⟩ ⟨rfl, hx⟩
      obtain ⟨⟨p, t⟩, hq, rfl⟩ := rf_at hx
      have hqt : (tv L)[i]? = some t := at_tv hq
      have en := hT t (List.mem_of_getElem? hqt)
      rw [fold_one hqt]
      generalize ((tv L).take i).foldl tie2 (eye names) = F at m2 ⊢
      have hp : H2' p = some (tieO t) := m1 _ _ (hL.at_ hq)
      refine ⟨p, _, rfl, sq_t hp, rfl, _, _, rfl, _, _, rfl, _, _, rfl, rfl, ?_⟩
      refine ⟨_, rfl, _, rfl, sz2, fun t1 ht1 => ⟨_, rfl, d, _, rfl, (m2.mono (same_new ht1)).get upd_same, _, rfl, ?_⟩⟩
      have m3 := m2.mono (same_new (o := .tup [.str t.1, .str t.2.1]) ht1)
      have m4 := m1.trans (same_new (o := .tup [.str t.1, .str t.2.1]) ht1)
      generalize upd H2' t1 (.tup [.str t.1, .str t.2.1]) = H3 at m3 m4 ⊢
      have stay : wins (F t.1 t.2.1) t.2.2 → tie2 F t = setT F t.1 t.2.1 t.2.2 := fun z => by unfold tie2; rw [if_pos z]
      cases hF : F t.1 t.2.1 with
      | none =>
        refine ⟨_, rfl, _, rfl, _, rfl, _, rfl, sz2, fun t2 ht2 => put_go few en.1 en.2 hd m4 m3 ht2 ?_⟩
        exact fun H' a1 a2 => ⟨_, _, _, rfl, a1, a2.eq (stay (by rw [hF]; trivial)).symm⟩
      | some z =>
        refine ⟨_, rfl, _, rfl, _, rfl, _, rfl, sz2, fun t2 ht2 => ⟨d, _, rfl, (m3.mono (same_new ht2)).has upd_same hF, _, _, rfl, rfl, _, rfl, ite2 (fun lt => ?_) (fun lt => ?_)⟩⟩
        · have lt : t.2.2 < z := of_decide_eq_true lt
          refine ⟨_, rfl, _, rfl, _, rfl, _, rfl, sz2, fun t3 ht3 => put_go few en.1 en.2 hd (m4.trans (same_new ht2)) (m3.mono (same_new ht2)) ht3 ?_⟩
          exact fun H' a1 a2 => ⟨_, _, _, rfl, a1, a2.eq (stay (by rw [hF]; exact lt)).symm⟩
        · refine ⟨_, _, _, rfl, m4.trans (same_new ht2), (m3.mono (same_new ht2)).eq ?_⟩
          unfold tie2
          rw [if_neg]
          intro w
          rw [hF] at w
          have w : t.2.2 < z := w
          exact lt (decide_eq_true w)
    · rintro _ H2 ⟨y4, y5, y6, rfl, m1, m2⟩
      rw [show (tv L).take (rf L).length = tv L by rw [rf_len, ← tv_len, List.take_length]] at m2
      -- the middles
      generalize hF0 : (tv L).foldl tie2 (eye names) = F0 at m2
      refine ⟨_, rfl, n, rfl, ⟨_, sq_t (m1 _ _ hn)⟩, ?_⟩
      refine for_it (walk_tup (xs := names.map V.str)) (fun k σ H3 => ∃ y3 y4 y5 y6 y7, σ = S y3 y4 y5 y6 y7 ∧ M ((names.take k).foldl (midK names) F0) H3) ⟨_, _, _, _, none, rfl, m1, m2⟩ (fun _ _ _ _ ⟨_, _, _, _, _, _, p, _⟩ => sq_t (p _ _ hn)) ?_ ?_
      · rintro k x _ H3 H3' hk ⟨y3, y4, y5, y6, y7, rfl, k1, k2⟩ ⟨rfl, hx⟩
        obtain ⟨mid, hmid, rfl⟩ := names_at hx
        rw [fold_one hmid]
        have mm := List.mem_of_getElem? hmid
        generalize (names.take k).foldl (midK names) F0 = F1 at k2 ⊢
        refine ⟨_, rfl, n, rfl, ⟨_, sq_t (k1 _ _ hn)⟩, ?_⟩
        refine for_it (walk_tup (xs := names.map V.str)) (fun k σ H3 => ∃ y3 y4 y5 y6, σ = S y3 y4 y5 y6 (some (.str mid)) ∧ M ((names.take k).foldl (midA names mid) F1) H3) ⟨y3, y4, y5, y6, rfl, k1, k2⟩ (fun _ _ _ _ ⟨_, _, _, _, _, p, _⟩ => sq_t (p _ _ hn)) ?_ ?_
        · rintro k x _ H3 H3' hk ⟨y3, y4, y5, y6, rfl, k1, k2⟩ ⟨rfl, hx⟩
          obtain ⟨fst, hfst, rfl⟩ := names_at hx
          rw [fold_one hfst]
          have mf := List.mem_of_getElem? hfst
          generalize (names.take k).foldl (midA names mid) F1 = F2 at k2 ⊢
          refine ⟨_, rfl, n, rfl, ⟨_, sq_t (k1 _ _ hn)⟩, ?_⟩
          refine for_it (walk_tup (xs := names.map V.str)) (fun k σ H3 => ∃ y3 y5 y6, σ = S y3 (some (.str fst)) y5 y6 (some (.str mid)) ∧ M ((names.take k).foldl (mid2 mid fst) F2) H3) ⟨y3, y5, y6, rfl, k1, k2⟩ (fun _ _ _ _ ⟨_, _, _, _, p, _⟩ => sq_t (p _ _ hn)) ?_ ?_
          · rintro k x _ H3 H3' hk ⟨y3, y5, y6, rfl, k1, k2⟩ ⟨rfl, hx⟩
            obtain ⟨snd, hsnd, rfl⟩ := names_at hx
            rw [fold_one hsnd]
            have ms := List.mem_of_getElem? hsnd
            generalize (names.take k).foldl (mid2 mid fst) F2 = F at k2 ⊢
            refine ⟨_, rfl, _, rfl, sz2, fun t1 ht1 => ⟨_, rfl, d, _, rfl, (k2.mono (same_new ht1)).get upd_same, _, rfl, ?_⟩⟩
            have k3 := k2.mono (same_new (o := .tup [.str fst, .str mid]) ht1)
            have k4 := k1.trans (same_new (o := .tup [.str fst, .str mid]) ht1)
            generalize upd H3' t1 (.tup [.str fst, .str mid]) = H4 at k3 k4 ⊢
            cases h1 : F fst mid with
            | none =>
              refine ⟨_, _, _, rfl, k4, k3.eq ?_⟩
              unfold mid2
              rw [h1]
            | some a =>
              refine ⟨_, rfl, _, rfl, sz2, fun t2 ht2 => ⟨_, rfl, d, _, rfl, (k3.mono (same_new ht2)).get upd_same, _, rfl, ?_⟩⟩
              have k5 := k3.mono (same_new (o := .tup [.str mid, .str snd]) ht2)
              have k6 := k4.trans (same_new (o := .tup [.str mid, .str snd]) ht2)
              generalize upd H4 t2 (.tup [.str mid, .str snd]) = H5 at k5 k6 ⊢
              cases h2 : F mid snd with
              | none =>
                refine ⟨_, _, _, rfl, k6, k5.eq ?_⟩
                unfold mid2
                rw [h1, h2]
              | some b =>
                have yes : wins (F fst snd) (a + b) → mid2 mid fst F snd = setT F fst snd (a + b) := fun z => by
                  unfold mid2
                  rw [h1, h2]
                  dsimp only
                  rw [if_pos z]
                have no : ¬ wins (F fst snd) (a + b) → mid2 mid fst F snd = F := fun z => by
                  unfold mid2
                  rw [h1, h2]
                  dsimp only
                  rw [if_neg z]
                -- n
                refine ⟨_, rfl, _, rfl, _, rfl, sz2, fun t3 ht3 => ⟨d, _, rfl, (k5.mono (same_new ht3)).has upd_same h1, ?_⟩⟩
                have k7 := k5.mono (same_new (o := .tup [.str fst, .str mid]) ht3)
                have k8 := k6.trans (same_new (o := .tup [.str fst, .str mid]) ht3)
                generalize upd H5 t3 (.tup [.str fst, .str mid]) = H6 at k7 k8 ⊢
                refine ⟨_, rfl, _, rfl, _, rfl, sz2, fun t4 ht4 => ⟨d, _, rfl, (k7.mono (same_new ht4)).has upd_same h2, _, _, rfl, rfl, ?_⟩⟩
                have k9 := k7.mono (same_new (o := .tup [.str mid, .str snd]) ht4)
                have k10 := k8.trans (same_new (o := .tup [.str mid, .str snd]) ht4)
                generalize upd H6 t4 (.tup [.str mid, .str snd]) = H7 at k9 k10 ⊢
                refine ⟨_, rfl, _, rfl, sz2, fun t5 ht5 => ⟨_, rfl, d, _, rfl, (k9.mono (same_new ht5)).get upd_same, _, rfl, ?_⟩⟩
                have l1 := k9.mono (same_new (o := .tup [.str fst, .str snd]) ht5)
                have l2 := k10.trans (same_new (o := .tup [.str fst, .str snd]) ht5)
                generalize upd H7 t5 (.tup [.str fst, .str snd]) = H8 at l1 l2 ⊢
                cases h3 : F fst snd with
                | none =>
                  refine ⟨_, rfl, _, rfl, _, rfl, _, rfl, sz2, fun t6 ht6 => put_go few mf ms hd l2 l1 ht6 ?_⟩
                  exact fun H' a1 a2 => ⟨_, _, _, rfl, a1, a2.eq (yes (by rw [h3]; trivial)).symm⟩
                | some z =>
                  refine ⟨_, rfl, _, rfl, _, rfl, _, rfl, sz2, fun t6 ht6 => ⟨d, _, rfl, (l1.mono (same_new ht6)).has upd_same h3, _, _, rfl, rfl, _, rfl, ite2 (fun lt => ?_) (fun lt => ?_)⟩⟩
                  · have lt : a + b < z := of_decide_eq_true lt
                    refine ⟨_, rfl, _, rfl, _, rfl, _, rfl, sz2, fun t7 ht7 => put_go few mf ms hd (l2.trans (same_new ht6)) (l1.mono (same_new ht6)) ht7 ?_⟩
                    exact fun H' a1 a2 => ⟨_, _, _, rfl, a1, a2.eq (yes (by rw [h3]; exact lt)).symm⟩
                  · refine ⟨_, _, _, rfl, l2.trans (same_new ht6), (l1.mono (same_new ht6)).eq (no fun w => ?_).symm⟩
                    rw [h3] at w
                    have w : a + b < z := w
                    exact lt (decide_eq_true w)
          · rintro _ H3 ⟨y3, y5, y6, rfl, k1, k2⟩
            rw [List.length_map, List.take_length] at k2
            exact ⟨_, _, _, _, rfl, k1, k2⟩
        · rintro _ H3 ⟨y3, y4, y5, y6, rfl, k1, k2⟩
          rw [List.length_map, List.take_length] at k2
          exact ⟨_, _, _, _, _, rfl, k1, k2⟩
      · rintro _ H3 ⟨y3, y4, y5, y6, y7, rfl, k1, k2⟩
        rw [List.length_map, List.take_length, ← hF0] at k2
        exact ⟨_, rfl, q H3 d k1 k2⟩
end
end Sw
namespace Sw
open PySem PySem.Spec PyProof.Rows L2 Wr WM
/-! ### the heap without an object that changes -/
def era (H : Hp) (b : Addr) : Hp := fun a => if a = b then none else H a
theorem era_self {H : Hp} {b : Addr} : era H b b = none := if_pos rfl
theorem era_ne {H : Hp} {a b : Addr} (h : a ≠ b) : era H b a = H a := if_neg h
theorem era_same {H : Hp} {b : Addr} : Same (era H b) H := fun a o e => by
  by_cases z : a = b
  · subst z
    rw [era_self] at e
    cases e
  · rwa [era_ne z] at e
theorem era_of {H : Hp} {a b : Addr} {o : HO} (h : H a = some o) (n : a ≠ b) : era H b a = some o := by rw [era_ne n]; exact h
theorem TiesIn.era {H : Hp} {L : TL} {b : Addr} (h : TiesIn H L) (n : ∀ xs, H b ≠ some (.tup xs)) : TiesIn (era H b) L := fun q m => era_of (h q m) fun e => n _ (e ▸ h q m)
theorem BoxAt.era {C : Addr} {H : Hp} {a b : Addr} {L : TL} (h : BoxAt C H a L) (n : ∀ xs, H b ≠ some (.tup xs)) (ne : a ≠ b) : BoxAt C (era H b) a L := by
  obtain ⟨dx, r, h1, h2, h3⟩ := h
  exact ⟨dx, r, era_of h1 ne, era_of h2 fun e => n _ (e ▸ h2), h3.era n⟩
/-! ### the ties of a table -/
def rowOf (F : Tab Str) (a : Str) (l : List Str) : List Tie := l.filterMap fun b => if a = b then none else (F a b).map fun n => (a, b, n)
def rowsOf (F : Tab Str) (names l : List Str) : List Tie := l.flatMap fun a => rowOf F a names
theorem rowOf_app (F : Tab Str) (a : Str) (l m : List Str) : rowOf F a (l ++ m) = rowOf F a l ++ rowOf F a m := List.filterMap_append
theorem rowsOf_app (F : Tab Str) (names l m : List Str) : rowsOf F names (l ++ m) = rowsOf F names l ++ rowsOf F names m := List.flatMap_append
theorem rowOf_one (F : Tab Str) (a b : Str) : rowOf F a [b] = if a = b then [] else match F a b with | none => [] | some n => [(a, b, n)] := by
  unfold rowOf
  by_cases e : a = b
  · rw [if_pos e]
    simp [e]
  · rw [if_neg e]
    cases h : F a b <;> simp [e, h]
theorem rowOf_len (F : Tab Str) (a : Str) (l : List Str) : (rowOf F a l).length ≤ l.length := List.length_filterMap_le _ _
theorem rowsOf_one (F : Tab Str) (names : List Str) (a : Str) : rowsOf F names [a] = rowOf F a names := by
  unfold rowsOf
  simp
theorem rowsOf_len (F : Tab Str) (names : List Str) : ∀ l, (rowsOf F names l).length ≤ l.length * names.length
  | [] => Nat.zero_le _
  | a :: l => by
    show (rowOf F a names ++ rowsOf F names l).length ≤ _
    rw [List.length_append, List.length_cons, Nat.succ_mul]
    have h1 := rowOf_len F a names
    have h2 := rowsOf_len F names l
    omega
structure TabAt (C : Addr) (H : Hp) (x : Addr) (T : List Tie) (ns : List Str) : Prop where
  ex : ∃ dx a d t M, H x = some (.ins C dx [("_names", .ref a), ("_least", .ref d), ("_ties", .ref t)]) ∧
    H a = some (.tup ((emp :: ns).map V.str)) ∧ DT (emp :: ns) H d (fw T (emp :: ns)) ∧ H t = some (.tup (rf M)) ∧ TiesIn H M ∧ tv M = rowsOf (fw T (emp :: ns)) (emp :: ns) (emp :: ns)
theorem TabAt.mono {C : Addr} {H H' : Hp} {x : Addr} {T : List Tie} {ns : List Str} (h : TabAt C H x T ns) (e : Same H H') : TabAt C H' x T ns := by
  obtain ⟨dx, a, d, t, M, h1, h5, h6, h7, h8, h9⟩ := h.ex
  exact ⟨⟨dx, a, d, t, M, e _ _ h1, e _ _ h5, h6.mono e, e _ _ h7, h8.mono e, h9⟩⟩
section
variable {P : Program} {w : World} {K : PySem.W.Frag} {mg : Str → Option Value} {base : Heap}
def spTableI (CT C : Addr) : Sp := fun vs H Q _ => ∃ x a dx L, vs = [.ref x, .ref a] ∧ H x = some (.ins C dx []) ∧ BoxAt CT H a L ∧ TsOk (tv L) ∧ (∃ h, Feas (tv L) h) ∧
  ∀ H' ns, Lots (tv L) ns → Same (era H x) H' → TabAt C H' x (tv L) ns → Q .non H'
theorem okTable__init__ (T : Tp K mg) : FnOk P w K mg base CX0 5 T.a_Table__init__ T.d_Table__init__ ["self", "ties"] (spTableI T.a_Ties T.a_Table) := by
  refine T.F_Table__init__.ok scTable__init__ (fun vs H Q E h => ?_) (fun cdv A outer s H vs Q E hr h => ?_)
  · obtain ⟨x, a, dx, L, rfl, _⟩ := h; rfl
  obtain ⟨x, a, dx, L, rfl, hx, hb, ok, ⟨h0, fe⟩, q⟩ := h
  refine ⟨_, PSs.nox (pss_cons (ps_set (i := 2) scTable__init__.nd rfl (Or.inl rfl) (pe_call (okplaced T) (hr.mono (by decide)) (by rfl) T.g_placed T.F_placed.kp (b_placed T) .nil pass0 (pa_cons (pv 1) pa_nil)))
  (pss_cons (ps_if (pt_cmpR op_eq (pe_ix ix_tup (pv 2) pe_int (fun _ _ => rfl)) pe_str (nomark _)) (pss_one ps_never) pss_nil)
  (pss_cons (ps_fld (pv 0) (pe_op op_catT (pe_tup (pa_cons pe_str pa_nil)) (pe_callTy call_tuple_of (by rfl) T.m_tuple (by decide +kernel) (pa_cons (pe_prop (pv 1) T.cl_Ties T.pr_lots (okTieslots T) (hr.mono (by decide)) (b_Tieslots T) .nil pass0 rfl) pa_nil))) rfl)
  (pss_cons (ps_fld (pv 0) (pe_call (okleast_ties T) (hr.mono (by decide)) (by rfl) T.g_least_ties T.F_least_ties.kp (b_least_ties T) .nil pass0 (pa_cons (pe_fld (pv 1) rfl) (pa_cons (pe_fld (pv 0) rfl) pa_nil))) rfl)
  (pss_cons (ps_set (i := 3) scTable__init__.nd rfl (Or.inl rfl) (pe_lst pa_nil))
  (pss_cons (ps_for PassesOwn.never rfl (pi_tup (pe_fld (pv 0) rfl)) (pg_name (i := 4) scTable__init__.nd rfl (Or.inl rfl)) (pss_one (ps_for PassesOwn.never rfl (pi_tup (pe_fld (pv 0) rfl)) (pg_name (i := 5) scTable__init__.nd rfl (Or.inl rfl)) (pss_one (ps_if (PW.pt (pw_and (pt_cmpR op_ne (pv 4) (pv 5) (nomark _)) (pw_and1 (pt_cmp (pc_din (hu_of hr) (pe_tup (pa_cons (pv 4) (pa_cons (pv 5) pa_nil))) (pe_fld (pv 0) rfl)))))) (pss_one (ps_expr (pe_bm PySem.F.plainAttrs_list PySem.F.slot_list_append PySem.F.type_list_append mt_append (pv 3) (pa_cons (pe_tup (pa_cons (pv 4) (pa_cons (pv 5) (pa_cons (pe_dget (hu_of hr) (pe_fld (pv 0) rfl) (pe_tup (pa_cons (pv 4) (pa_cons (pv 5) pa_nil))) (fun _ _ => rfl)) pa_nil)))) pa_nil)))) pss_nil)))))
  (pss_one (ps_fld (pv 0) (pe_callTy call_tuple_of (by rfl) T.m_tuple (by decide +kernel) (pa_cons (pv 3) pa_nil)) rfl)))))))), ?_⟩
  have nx : ∀ xs, H x ≠ some (.tup xs) := fun xs e => by
    rw [hx] at e
    exact HO.noConfusion (Option.some.inj e)
  have nax : a ≠ x := by
    obtain ⟨dx', r, h1, _⟩ := hb
    refine ne_of h1 hx fun e => ?_
    injection e with _ _ e
    cases e
  have hG := hb.era nx nax
  refine ⟨_, rfl, a, L, rfl, hb, ok, fun ns lots => ⟨fun H1 p dd hh e1 f1 hp hd => ?_, fun H1 p dd l e1 r1 r2 => absurd fe (r2 h0)⟩⟩
  clear hd f1
  refine ⟨_, rfl, p, _, _, _, rfl, rfl, sq_t hp, rfl, rfl, _, rfl, ite2 (fun z => absurd (of_decide_eq_true z) (by intro z; exact absurd (V.str.inj z) (by decide +kernel))) (fun _ => ?_)⟩
  have e2 : Same (era H x) H1 := Same.trans (era_same (b := x)) e1
  have x1 := e1 _ _ hx
  clear hp
  -- self._names
  have hG0 : (era H x) x = none := era_self
  refine ⟨sz1, fun c1 hc1 => ?_⟩
  have e3 := e2.trans (same_new (o := .tup [.str ""]) hc1)
  have x2 := same_new (o := .tup [.str ""]) hc1 _ _ x1
  have u1 : (upd H1 c1 (.tup [.str ""])) c1 = some (.tup [.str ""]) := upd_same
  generalize upd H1 c1 (.tup [.str ""]) = H2 at e3 x2 u1 ⊢
  have ⟨dxa, r, b1, b2, b3⟩ := hG.mono e3
  refine ⟨_, rfl, a, dxa, _, rfl, b1, a, L, rfl, hG.mono e3, ok, fun H3 lp ns e4 h4 lots => ?_⟩
  have h20 := lots.len ok
  refine ⟨lp, _, rfl, .inr ⟨sq_t h4, catT_go (K := K) (e4 _ _ u1) h4 (fun z => nomatch z) (by rw [List.length_map]; exact small (by show 1 + _ ≤ _; omega)) fun c2 H4 e5 h5 => ?_⟩⟩
  have h5 : H4 c2 = some (.tup ((emp :: ns).map V.str)) := h5
  have e6 := (e3.trans e4).trans e5
  have x3 := e5 _ _ (e4 _ _ x2)
  clear h4 u1
  have c2x : c2 ≠ x := ne_of h5 x3 (fun z => HO.noConfusion z)
  refine ⟨_, rfl, x, _, dx, [], rfl, x3, T.cl_Table, T.na__names, (by show 0 < 1000; decide), ?_⟩
  have e7 : Same (era H x) (upd H4 x (.ins T.a_Table dx [("_names", .ref c2)])) := same_mut e6 hG0
  have x4 : (upd H4 x (.ins T.a_Table dx [("_names", .ref c2)])) x = some (.ins T.a_Table dx [("_names", .ref c2)]) := upd_same
  have h7 : (upd H4 x (.ins T.a_Table dx [("_names", .ref c2)])) c2 = some (.tup ((emp :: ns).map V.str)) := by rw [upd_ne c2x]; exact h5
  show tSeq _ _ _ _ (upd H4 x (.ins T.a_Table dx [("_names", .ref c2)]))
  generalize upd H4 x (.ins T.a_Table dx [("_names", .ref c2)]) = H5 at e7 x4 h7 ⊢
  clear h5 x3
  -- self._least
  have ⟨dxa, r, b1, b2, b3⟩ := hG.mono e7
  refine ⟨_, rfl, a, _, dxa, _, _, rfl, b1, T.cl_Ties, T.na_rows, rfl, _, rfl, x, _, dx, _, _, rfl, x4, T.cl_Table, T.na__names, rfl, ?_⟩
  refine ⟨r, c2, L, emp :: ns, rfl, b2, b3, h7, fun t m => ends_in lots m, by rw [List.length_cons]; omega, fun H6 d e8 hd => ?_⟩
  have x5 := e8 _ _ x4
  have h8 := e8 _ _ h7
  have e9 := e7.trans e8
  refine ⟨_, rfl, x, _, dx, _, rfl, x5, T.cl_Table, T.na__least, (by show 1 < 1000; decide), ?_⟩
  have dx_ne : d ≠ x := by
    obtain ⟨N, f, z⟩ := hd.isD
    exact ne_of z x5 (fun z => HO.noConfusion z)
  have e10 : Same (era H x) (upd H6 x (.ins T.a_Table dx [("_names", .ref c2), ("_least", .ref d)])) := same_mut e9 hG0
  have x6 : (upd H6 x (.ins T.a_Table dx [("_names", .ref c2), ("_least", .ref d)])) x = some (.ins T.a_Table dx [("_names", .ref c2), ("_least", .ref d)]) := upd_same
  have h9 : (upd H6 x (.ins T.a_Table dx [("_names", .ref c2), ("_least", .ref d)])) c2 = some (.tup ((emp :: ns).map V.str)) := by rw [upd_ne c2x]; exact h8
  have hd2 : DT (emp :: ns) (upd H6 x (.ins T.a_Table dx [("_names", .ref c2), ("_least", .ref d)])) d (fw (tv L) (emp :: ns)) := by
    obtain ⟨N, f, z1, z2⟩ := hd
    exact ⟨N, f, by rw [upd_ne dx_ne]; exact z1, z2⟩
  show tSeq _ _ _ _ (upd H6 x (.ins T.a_Table dx [("_names", .ref c2), ("_least", .ref d)]))
  generalize upd H6 x (.ins T.a_Table dx [("_names", .ref c2), ("_least", .ref d)]) = H7 at e10 x6 h9 hd2 ⊢
  clear hd h8 x5 h7 x4
  -- found
  refine ⟨sz0, fun p1 hp1 => ?_⟩
  have few : (emp :: ns).length ≤ 21 := by rw [List.length_cons]; omega
  generalize hnm : emp :: ns = names at h9 hd2 few ⊢
  generalize hF : fw (tv L) names = F at hd2
  let S (y3 y4 : Option V) : L2.St := [some (.ref x), some (.ref a), some (.ref p), some (.ref p1), y3, y4]
  -- what stays, and the list
  let M (G : List Tie) (H' : Hp) : Prop := Same H7 H' ∧ ∃ R : TL, H' p1 = some (.lst (rf R)) ∧ TiesIn H' R ∧ tv R = G
  have mm : ∀ {G A B}, M G A → Same A B → M G B := fun {G A B} ⟨z1, R, z2, z3, z4⟩ e => ⟨z1.trans e, R, e _ _ z2, z3.mono e, z4⟩
  have M0 : M [] (upd H7 p1 (.lst [])) := ⟨same_new hp1, [], upd_same, TiesIn.nil, rfl⟩
  refine ⟨_, rfl, x, _, dx, _, _, rfl, M0.1 _ _ x6, T.cl_Table, T.na__names, rfl, c2, rfl, ⟨_, sq_t (M0.1 _ _ h9)⟩, ?_⟩
  refine for_it (walk_tup (xs := names.map V.str)) (fun k σ H8 => ∃ y3 y4, σ = S y3 y4 ∧ M (rowsOf F names (names.take k)) H8) ⟨none, none, rfl, M0⟩ (fun _ _ _ _ ⟨_, _, _, z⟩ => sq_t (z.1 _ _ h9)) ?_ ?_
  · rintro k v _ H8 H8' hk ⟨y3, y4, rfl, m1⟩ ⟨rfl, hv⟩
    obtain ⟨fst, hfst, rfl⟩ := names_at hv
    rw [take_one hfst, rowsOf_app, rowsOf_one]
    have hG1 : (rowsOf F names (names.take k)).length ≤ 21 * 21 := by
      have z := rowsOf_len F names (names.take k)
      rw [List.length_take] at z
      exact Nat.le_trans z (Nat.mul_le_mul (by omega) few)
    generalize rowsOf F names (names.take k) = G at m1 hG1 ⊢
    refine ⟨_, rfl, x, _, dx, _, _, rfl, m1.1 _ _ x6, T.cl_Table, T.na__names, rfl, c2, rfl, ⟨_, sq_t (m1.1 _ _ h9)⟩, ?_⟩
    refine for_it (walk_tup (xs := names.map V.str)) (fun k σ H8 => ∃ y4, σ = S (some (.str fst)) y4 ∧ M (G ++ rowOf F fst (names.take k)) H8) ⟨y4, rfl, by rw [show rowOf F fst (names.take 0) = [] from rfl, List.append_nil]; exact m1⟩ (fun _ _ _ _ ⟨_, _, z⟩ => sq_t (z.1 _ _ h9)) ?_ ?_
    · rintro k v _ H8 H8' hk ⟨y4, rfl, m1⟩ ⟨rfl, hv⟩
      obtain ⟨snd, hsnd, rfl⟩ := names_at hv
      rw [take_one hsnd, rowOf_app, rowOf_one, ← List.append_assoc]
      have hG2 : (G ++ rowOf F fst (names.take k)).length ≤ 21 * 21 + 21 := by
        have z := rowOf_len F fst (names.take k)
        rw [List.length_take] at z
        rw [List.length_append]
        omega
      generalize G ++ rowOf F fst (names.take k) = G2 at m1 hG2 ⊢
      refine ⟨_, rfl, _, rfl, rfl, _, rfl, ite2 (fun ne => ?_) (fun ne => ?_)⟩
      · have ne : fst ≠ snd := fun e => by
          rw [decide_eq_true (by rw [e])] at ne
          exact absurd ne (by decide)
        rw [if_neg ne]
        refine ⟨_, rfl, _, rfl, sz2, fun t1 ht1 => ?_⟩
        have m2 := mm m1 (same_new (o := .tup [.str fst, .str snd]) ht1)
        have u1 : (upd H8' t1 (.tup [.str fst, .str snd])) t1 = some (.tup [.str fst, .str snd]) := upd_same
        generalize upd H8' t1 (.tup [.str fst, .str snd]) = H9 at m2 u1 ⊢
        refine ⟨_, rfl, x, _, dx, _, _, rfl, m2.1 _ _ x6, T.cl_Table, T.na__least, rfl, d, _, rfl, (hd2.mono m2.1).get u1, _, rfl, ?_⟩
        cases h1 : F fst snd with
        | none => exact ⟨_, rfl, by rw [List.append_nil]; exact m2⟩
        | some n =>
          have ⟨_, R, r1, r2, r3⟩ := m2
          refine ⟨_, rfl, .inl ⟨rfl, _, sq_l r1⟩, _, rfl, _, rfl, _, rfl, x, _, dx, _, _, rfl, m2.1 _ _ x6, T.cl_Table, T.na__least, rfl, _, rfl, _, rfl, sz2, fun t2 ht2 => ?_⟩
          have m3 := mm m2 (same_new (o := .tup [.str fst, .str snd]) ht2)
          have u2 : (upd H9 t2 (.tup [.str fst, .str snd])) t2 = some (.tup [.str fst, .str snd]) := upd_same
          generalize upd H9 t2 (.tup [.str fst, .str snd]) = H10 at m3 u2 ⊢
          refine ⟨d, _, rfl, (hd2.mono m3.1).has u2 h1, sz3, fun t3 ht3 => ?_⟩
          have ⟨s1, R, r1, r2, r3⟩ := mm m3 (same_new (o := .tup [.str fst, .str snd, .int n]) ht3)
          have u3 : (upd H10 t3 (.tup [.str fst, .str snd, .int n])) t3 = some (tieO (fst, snd, n)) := upd_same
          generalize upd H10 t3 (.tup [.str fst, .str snd, .int n]) = H11 at s1 r1 r2 u3 ⊢
          refine ⟨p1, _, _, rfl, rfl, r1, small' ?_, _, rfl, same_mut s1 hp1, R ++ [(t3, (fst, snd, n))], ?_, ?_, ?_⟩
          · rw [rf_len, ← tv_len, r3]; omega
          · rw [upd_same, rf_app]; rfl
          · refine TiesIn.app (fun q m => ?_) (TiesIn.one ?_)
            · rw [upd_ne (ne_of (r2 q m) r1 (fun z => HO.noConfusion z))]; exact r2 q m
            · rw [upd_ne (ne_of u3 r1 (fun z => HO.noConfusion z))]; exact u3
          · rw [tv_app, r3]; rfl
      · have e : fst = snd := by
          by_cases e : fst = snd
          · exact e
          · rw [decide_eq_false fun z => e (V.str.inj z)] at ne
            exact absurd rfl ne
        rw [if_pos e, List.append_nil]
        exact ⟨_, rfl, m1⟩
    · rintro _ H8 ⟨y4, rfl, m1⟩
      rw [List.length_map, List.take_length] at m1
      exact ⟨_, _, rfl, m1⟩
  · rintro _ H8 ⟨y3, y4, rfl, m1, R, m2, m3, m4⟩
    rw [List.length_map, List.take_length] at m4
    have x8 := m1 _ _ x6
    refine ⟨_, rfl, p1, _, rfl, .inl ⟨sq_l m2, fun t ht => ?_⟩⟩
    have n1 := same_new (o := .tup (rf R)) ht
    refine ⟨_, rfl, x, _, dx, _, rfl, n1 _ _ x8, T.cl_Table, T.na__ties, (by show 2 < 1000; decide), ?_⟩
    have tx : t ≠ x := (ne_of_none x8 ht).symm
    have nodt : ∀ b xs, (upd H8 t (.tup (rf R))) b = some (.tup xs) → b ≠ x := fun b xs e => ne_of e (n1 _ _ x8) (fun z => HO.noConfusion z)
    refine q _ ns lots (same_mut ((e10.trans m1).trans n1) hG0) ⟨⟨dx, c2, d, t, R, upd_same, ?_, ?_, ?_, fun q m => ?_, ?_⟩⟩
    · rw [hnm, upd_ne (nodt c2 _ (n1 _ _ (m1 _ _ h9)))]
      exact n1 _ _ (m1 _ _ h9)
    · rw [hnm, hF]
      obtain ⟨N, f, z1, z2⟩ := (hd2.mono m1).mono n1
      exact ⟨N, f, by rw [upd_ne dx_ne]; exact z1, z2⟩
    · rw [upd_ne tx]; exact upd_same
    · have z := n1 _ _ (m3 q m)
      rw [upd_ne (nodt _ _ z)]
      exact z
    · rw [hnm, hF]; exact m4
end
end Sw
namespace Sw
open PySem PySem.Spec PyProof.Rows L2 Wr WM
theorem make_table {CT C : Addr} {H : Hp} {a : Addr} {L : TL} {x dx : Addr} {R : Hp → Prop} {E : XK} (hx : H x = none) (hdx : H dx = none) (hb : BoxAt CT H a L) (ok : TsOk (tv L)) (fe : ∃ h, Feas (tv L) h) (q : ∀ H' ns, Same H H' → Lots (tv L) ns → TabAt C H' x (tv L) ns → R H') :
    spTableI CT C (.ref x :: ([.ref a] ++ [])) (upd (upd H dx (.own x)) x (.ins C dx [])) (fun v H2 => v = .non ∧ R H2) E := by
  have s1 : Same H (upd (upd H dx (.own x)) x (.ins C dx [])) := fun b o e => by
    rw [upd_ne (ne_of_none e hx), upd_ne (ne_of_none e hdx)]
    exact e
  refine ⟨x, a, dx, L, rfl, upd_same, hb.mono s1, ok, fe, fun H' ns lots k h1 => ⟨rfl, q H' ns (fun b o e => k b o (era_of (s1 b o e) (ne_of_none e hx))) lots h1⟩⟩
section
variable {P : Program} {w : World} {K : PySem.W.Frag} {mg : Str → Option Value} {base : Heap}
/-! ### data that == reads -/
theorem signs_low : ∀ c ∈ signs, c < 0x110000 := by decide +kernel
theorem end_str {x : Str} (h : EndOk x) : PyData.strOk x = true := by
  rcases h with rfl | h
  · decide +kernel
  · unfold PyData.strOk
    rw [← Array.all_toList, List.all_eq_true]
    intro c m
    exact decide_eq_true (signs_low c (h.nm.all c m))
theorem strs_lay : ∀ ns : List Str, (∀ x ∈ ns, PyData.strOk x = true) → PyData.canLayAll0 (ns.map PyData.str) = true ∧ PyData.depthAll (ns.map PyData.str) = 0
  | [], _ => ⟨rfl, rfl⟩
  | x :: r, h => by
    obtain ⟨h1, h2⟩ := strs_lay r fun y m => h y (List.mem_cons_of_mem _ m)
    constructor
    · show (PyData.strOk x && PyData.canLayAll0 (r.map PyData.str)) = true
      rw [h x List.mem_cons_self, h1]
      rfl
    · show max 0 (PyData.depthAll (r.map PyData.str)) = 0
      rw [h2]
      rfl
theorem shaped_strs {ns : List Str} (h : ∀ x ∈ ns, PyData.strOk x = true) : SeqAt.shaped (.tuple (ns.map PyData.str)) = true := by
  obtain ⟨h1, h2⟩ := strs_lay ns h
  unfold SeqAt.shaped
  rw [Bool.and_eq_true]
  refine ⟨h1, decide_eq_true ?_⟩
  show PyData.depthAll (ns.map PyData.str) + 1 ≤ 64
  rw [h2]
  decide
def tieD (t : Tie) : PyData := .tuple [.str t.1, .str t.2.1, .int t.2.2]
theorem ties_lay : ∀ T : List Tie, (∀ t ∈ T, PyData.strOk t.1 = true ∧ PyData.strOk t.2.1 = true) → PyData.canLayAll0 (T.map tieD) = true ∧ PyData.depthAll (T.map tieD) ≤ 1
  | [], _ => ⟨rfl, Nat.zero_le _⟩
  | t :: r, h => by
    obtain ⟨h1, h2⟩ := ties_lay r fun y m => h y (List.mem_cons_of_mem _ m)
    obtain ⟨a, b⟩ := h t List.mem_cons_self
    constructor
    · show ((PyData.strOk t.1 && (PyData.strOk t.2.1 && (true && true))) && PyData.canLayAll0 (r.map tieD)) = true
      rw [a, b, h1]
      rfl
    · show max (max 0 (max 0 (max 0 0)) + 1) (PyData.depthAll (r.map tieD)) ≤ 1
      omega
theorem shaped_ties {T : List Tie} (h : ∀ t ∈ T, TieOk t) : SeqAt.shaped (.list (T.map tieD)) = true := by
  obtain ⟨h1, h2⟩ := ties_lay T fun t m => ⟨end_str (h t m).one, end_str (h t m).two⟩
  unfold SeqAt.shaped
  rw [Bool.and_eq_true]
  refine ⟨h1, decide_eq_true ?_⟩
  show PyData.depthAll (T.map tieD) + 1 ≤ 64
  omega
theorem dp_ties {K : PySem.W.Frag} {H : Hp} : ∀ {L : TL}, TiesIn H L → DpAll K H (rf L) ((tv L).map tieD)
  | [], _ => .nil
  | q :: r, h => .cons (.tup (sq_t (h q List.mem_cons_self)) (.cons (.str _) (.cons (.str _) (.cons (.int _) .nil)))) (dp_ties fun p m => h p (List.mem_cons_of_mem _ m))
theorem tieD_inj : ∀ T U : List Tie, T.map tieD = U.map tieD → T = U
  | [], [], _ => rfl
  | [], _ :: _, e => by cases e
  | _ :: _, [], e => by cases e
  | (a, b, n) :: T, (c, d, m) :: U, e => by
    injection e with e1 e2
    rw [tieD_inj T U e2]
    unfold tieD at e1
    injection e1 with e1
    injection e1 with e1 e3
    injection e3 with e3 e4
    injection e4 with e4 _
    injection e1 with e1
    injection e3 with e3
    injection e4 with e4
    dsimp only at e1 e3 e4
    rw [e1, e3, e4]
/-! ### Table.__eq__ -/
def TabEq (C : Addr) (a b : Addr) (H : Hp) : Prop := ∃ T U ns, TabAt C H a T ns ∧ TabAt C H b U ns ∧ fw T (emp :: ns) = fw U (emp :: ns) ∧ ∀ x ∈ emp :: ns, PyData.strOk x = true
theorem dp_strs (K : PySem.W.Frag) (H : Hp) : ∀ ns : List Str, DpAll K H (ns.map V.str) (ns.map PyData.str)
  | [] => .nil
  | x :: r => .cons (.str x) (dp_strs K H r)
theorem okTable__eq__ (T : Tp K mg) : FnOk P w K mg base CX0 1 T.a_Table__eq__ T.d_Table__eq__ ["self", "other"] (spEq (TabEq T.a_Table)) := by
  refine T.F_Table__eq__.ok scTable__eq__ (fun vs H Q E h => ?_) (fun cdv A outer s H vs Q E hr h => ?_)
  · obtain ⟨a, b, rfl, _⟩ := h; rfl
  obtain ⟨a, b, rfl, ⟨T1, U, ns, ha, hb, e, hs⟩, q⟩ := h
  refine ⟨_, PSs.nox (pss_one (ps_ret (pe_and (pe_callB call_isi (by rfl) T.m_isinstance (by decide +kernel) (pa_cons (pv 1) (pa_cons (pe_glob (v := .ref T.a_Table) (by rfl) T.g_Table rfl) pa_nil))) (pe_and (pe_cmpR (op_eqD (hu_D hr)) (pe_fld (pv 0) rfl) (pe_fld (pv 1) rfl) (nomark _)) (pe_one (pe_cmpR (Wr.op_eq_dT (hu_of hr)) (pe_fld (pv 0) rfl) (pe_fld (pv 1) rfl) (nomark _))))))), ?_⟩
  obtain ⟨dx, a1, d1, t1, M1, i1, n1, D1, _⟩ := ha.ex
  obtain ⟨dy, a2, d2, t2, M2, i2, n2, D2, _⟩ := hb.ex
  refine ⟨_, rfl, _, .ref T.a_Table, _, .ref T.a_Table, true, rfl, .own _, .base (.ins i2 T.cl_Table T.tc1 T.tc2 T.tc3 T.tc4), ?_, true, rfl, ?_⟩
  · unfold PySem.W.kitOne
    rw [if_pos (beq_self_eq_true _)]
  refine ⟨_, rfl, a, _, dx, _, _, rfl, i1, T.cl_Table, T.na__names, rfl, _, rfl, b, _, dy, _, _, rfl, i2, T.cl_Table, T.na__names, rfl, ?_⟩
  have sh : SeqAt.shaped (.tuple ((emp :: ns).map PyData.str)) = true := shaped_strs hs
  refine ⟨_, _, .tup (sq_t n1) (dp_strs _ _ _), .tup (sq_t n2) (dp_strs _ _ _), sh, sh, true, ?_, ?_⟩
  · rw [SeqAt.eqv_refl _ (SeqAt.canLay_of_shaped sh)]
  refine ⟨_, rfl, a, _, dx, _, _, rfl, i1, T.cl_Table, T.na__least, rfl, _, rfl, b, _, dy, _, _, rfl, i2, T.cl_Table, T.na__least, rfl, ?_⟩
  obtain ⟨N1, f1, D11, nd1, in1, v1⟩ := D1
  obtain ⟨N2, f2, D21, nd2, in2, v2⟩ := D2
  have same : ∀ p, tb N1 f1 p = tb N2 f2 p := fun p => by
    rw [show p = (p.1, p.2) from rfl, v1, v2, e]
  have mem : ∀ p, p ∈ N1 ↔ p ∈ N2 := fun p => by
    constructor
    · intro m
      have z := same p
      rw [tb_in m] at z
      exact (tb_some.mp z.symm).1
    · intro m
      have z := same p
      rw [tb_in m] at z
      exact (tb_some.mp z).1
  have hlen : N1.length = N2.length := Nat.le_antisymm (nodup_le _ _ nd1 fun p m => (mem p).mp m) (nodup_le _ _ nd2 fun p m => (mem p).mpr m)
  refine ⟨d1, d2, _, _, rfl, rfl, D11, D21, ?_, ?_, q _ (fun _ _ z => z)⟩
  · rw [kvs_len, kvs_len, hlen]
  · intro p mp
    obtain ⟨x, mx, rfl⟩ := List.mem_map.mp mp
    refine ⟨?_, rfl⟩
    dsimp only
    rw [kvs_val kP_inj, ← same, tb_in mx]
    rfl
/-! ### shadow_ties -/
noncomputable def shadowOf (T : List Tie) (ns wl : List Str) : List Tie := (rowsOf (fw T (emp :: ns)) (emp :: ns) (emp :: ns)).filter fun t => decide (t.1 ∈ emp :: wl) && decide (t.2.1 ∈ emp :: wl)
def spShadow (C : Addr) : Sp := fun vs H Q _ => ∃ a l L wl, vs = [.ref a, .ref l] ∧ BoxAt C H a L ∧ TsOk (tv L) ∧ (∃ h, Feas (tv L) h) ∧ H l = some (.tup (wl.map V.str)) ∧ wl.length ≤ 100 ∧
  ∀ H' p ns M, Same H H' → Lots (tv L) ns → H' p = some (.tup (rf M)) → TiesIn H' M → tv M = shadowOf (tv L) ns wl → Q (.ref p) H'
theorem okshadow_ties (T : Tp K mg) : FnOk P w K mg base CX0 8 T.a_shadow_ties T.d_shadow_ties ["ties", "lots"] (spShadow T.a_Ties) := by
  refine T.F_shadow_ties.ok scshadow_ties (fun vs H Q E h => ?_) (fun cdv A outer s H vs Q E hr h => ?_)
  · obtain ⟨a, l, L, wl, rfl, _⟩ := h; rfl
  obtain ⟨a, l, L, wl, rfl, hb, ok, fe, hl, few, q⟩ := h
  refine ⟨_, PSs.nox (pss_cons (ps_set (i := 2) scshadow_ties.nd rfl (Or.inr rfl) (pe_op op_catT (pe_tup (pa_cons pe_str pa_nil)) (pe_callTy call_tuple_of (by rfl) T.m_tuple (by decide +kernel) (pa_cons (pv 1) pa_nil))))
  (pss_one (ps_ret (pe_callTy call_tuple_of (by rfl) T.m_tuple (by decide +kernel) (pa_cons (pe_lc (own := [("row", 3)]) (te := (tVar 3)) (tt := (tAnd (tTest (tOp (rIn K false) (tOp (rIxT K) (tVar 3) (tC (.int 0))) (tVar 2))) (tTest (tOp (rIn K false) (tOp (rIxT K) (tVar 3) (tC (.int 1))) (tVar 2))))) rfl scshadow_ties.nd (Wr.pi_own (pe_make T.mk_Table (okTable__init__ T) (hr.mono (by decide)) (by rfl) T.g_Table (b_Table__init__ T) .nil pass0 (pa_cons (pv 0) pa_nil)) (okTable__iter__ T) (hr.mono (by decide)) (b_Table__iter__ T) T.it_Table T.if_Table) (blkOk_by (own := [("row", 3)]) (N := Nshadow_ties) (sc := defScope sshadow_ties) (by decide +kernel)) (fun _ _ _ _ _ => (pg_name (i := 3) scshadow_ties.nd rfl (Or.inl rfl))) (fun _ _ _ _ _ => (pts_one (PW.pt (pw_and (pt_cmpR op_in_seq (pe_ix ix_tup (pv 3) pe_int (fun _ _ => rfl)) (pv 2) (by rfl)) (pw_and1 (pt_cmpR op_in_seq (pe_ix ix_tup (pv 3) pe_int (fun _ _ => rfl)) (pv 2) (by rfl))))))) (fun _ _ _ _ _ => (pv 3))) pa_nil))))), ?_⟩
  refine ⟨sz1, fun c1 hc1 => ?_⟩
  have e1 := same_new (o := .tup [.str ""]) hc1
  refine ⟨_, rfl, l, _, rfl, .inr ⟨sq_t (e1 _ _ hl), catT_go (K := K) upd_same (e1 _ _ hl) (fun z => nomatch z) (by rw [List.length_map]; exact small (by show 1 + _ ≤ _; omega)) fun c2 H1 e2 h2 => ?_⟩⟩
  have h2 : H1 c2 = some (.tup ((emp :: wl).map V.str)) := h2
  have e3 := e1.trans e2
  refine ⟨_, rfl, fun x dx n1 n2 n3 => make_table n1 n2 (hb.mono e3) ok fe fun H2 ns e4 lots tab => ?_⟩
  clear n1 n2 n3 dx
  obtain ⟨dx, a1, d1, t1, M, i1, i2, i3, i4, i5, i6⟩ := tab.ex
  refine ⟨x, dx, _, t1, rf M, rfl, i1, rfl, sq_t i4, fun D hD => ?_⟩
  have h3 := e4 _ _ h2
  have mlen : M.length ≤ 21 * 21 := by
    have z := rowsOf_len (fw (tv L) (emp :: ns)) (emp :: ns) (emp :: ns)
    rw [← i6, tv_len] at z
    have := lots.len ok
    rw [List.length_cons] at z
    exact Nat.le_trans z (Nat.mul_le_mul (by omega) (by omega))
  refine lc_it (walk_tup (xs := rf M)) (fun i H' => Same H2 H' ∧ ∃ R : TL, H' D = some (.lst (rf R)) ∧ (∀ q ∈ R, q ∈ M) ∧ R.length ≤ i ∧ tv R = ((tv M).take i).filter fun t => decide (t.1 ∈ emp :: wl) && decide (t.2.1 ∈ emp :: wl)) ⟨same_new hD, [], upd_same, fun _ m => absurd m List.not_mem_nil, Nat.le_refl _, rfl⟩ (fun _ _ _ p => sq_t (p.1 _ _ i4)) ?_ ?_
  · rintro i v H3 H3' hi ⟨k1, R, r1, r2, r4, r3⟩ ⟨rfl, hv⟩
    obtain ⟨⟨p, t⟩, hq, rfl⟩ := rf_at hv
    have hp : H3' p = some (tieO t) := k1 _ _ (i5.at_ hq)
    have hqt : (tv M)[i]? = some t := at_tv hq
    rw [rf_len] at hi
    rw [take_one hqt, List.filter_append]
    have one : [t].filter (fun t => decide (t.1 ∈ emp :: wl) && decide (t.2.1 ∈ emp :: wl)) = if (decide (t.1 ∈ emp :: wl) && decide (t.2.1 ∈ emp :: wl)) = true then [t] else [] := by
      by_cases z : (decide (t.1 ∈ emp :: wl) && decide (t.2.1 ∈ emp :: wl)) = true
      · rw [if_pos z]; simp only [List.filter_cons, z, if_true, List.filter_nil]
      · rw [if_neg z]; simp only [List.filter_cons, z, if_false, List.filter_nil]; rfl
    rw [one]
    refine ⟨rfl, _, rfl, p, _, _, _, rfl, rfl, sq_t hp, rfl, _, rfl, c2, _, rfl, .inr (sq_t (k1 _ _ h3)), rfl, strs_flat _, decide (t.1 ∈ emp :: wl), ?_, ?_⟩
    · show V.bl (inV (.str t.1) ((emp :: wl).map V.str)) = _
      rw [inV_strs]
    by_cases z1 : t.1 ∈ emp :: wl
    · rw [decide_eq_true z1]
      refine ⟨_, rfl, p, _, _, _, rfl, rfl, sq_t hp, rfl, _, rfl, c2, _, rfl, .inr (sq_t (k1 _ _ h3)), rfl, strs_flat _, decide (t.2.1 ∈ emp :: wl), ?_, ?_⟩
      · show V.bl (inV (.str t.2.1) ((emp :: wl).map V.str)) = _
        rw [inV_strs]
      by_cases z2 : t.2.1 ∈ emp :: wl
      · rw [decide_eq_true z2]
        refine ⟨_, rfl, _, r1, small' (by rw [rf_len]; omega), same_mut k1 hD, R ++ [(p, t)], ?_, fun q' m => ?_, ?_, ?_⟩
        · rw [upd_same, rf_app]; rfl
        · rcases List.mem_append.mp m with m | m
          · exact r2 q' m
          · rw [List.mem_singleton.mp m]; exact List.mem_of_getElem? hq
        · rw [List.length_append, List.length_singleton]; omega
        · rw [tv_app, r3]; rfl
      · rw [decide_eq_false z2]
        exact ⟨k1, R, r1, r2, by omega, by rw [r3]; show _ = _ ++ []; rw [List.append_nil]⟩
    · rw [decide_eq_false z1]
      exact ⟨k1, R, r1, r2, by omega, by rw [r3]; show _ = _ ++ []; rw [List.append_nil]⟩
  · rintro H3 ⟨k1, R, r1, r2, r4, r3⟩
    rw [rf_len, ← tv_len, List.take_length, i6] at r3
    refine ⟨D, _, rfl, .inl ⟨sq_l r1, fun p hp => ?_⟩⟩
    exact q _ p ns R (((e3.trans e4).trans k1).trans (same_new hp)) lots upd_same (((i5.sub r2).mono k1).mono (same_new hp)) r3
end
end Sw
namespace Sw
open PySem PySem.Spec PyProof.Rows L2 Wr WM
/-! ### rows: dicts from names to numbers that grow -/
def RowAt (NL : List Str) (H : Hp) (d : Addr) (F : Row Str) : Prop := ∃ N f, H d = some (dS N f) ∧ N.Nodup ∧ (∀ x ∈ N, x ∈ NL) ∧ ∀ x, tb N f x = F x
def setR (F : Row Str) (x : Str) (v : Int) : Row Str := fun y => if y = x then some v else F y
theorem RowAt.mono {NL : List Str} {H H' : Hp} {d : Addr} {F : Row Str} (h : RowAt NL H d F) (e : Same H H') : RowAt NL H' d F := by
  obtain ⟨N, f, h1, h2, h3, h4⟩ := h
  exact ⟨N, f, e _ _ h1, h2, h3, h4⟩
theorem RowAt.get {NL : List Str} {H : Hp} {d : Addr} {F : Row Str} (h : RowAt NL H d F) (x : Str) : DGet H d (.str x) ((F x).map V.int) := by
  obtain ⟨N, f, h1, h2, h3, h4⟩ := h
  rw [← h4]
  exact dS_get h1 x
theorem RowAt.has {NL : List Str} {H : Hp} {d : Addr} {F : Row Str} (h : RowAt NL H d F) {x : Str} {v : Int} (e : F x = some v) : DGet H d (.str x) (some (.int v)) := by
  have q := h.get x
  rwa [e] at q
theorem RowAt.put {NL : List Str} {H0 H : Hp} {d : Addr} {F : Row Str} (h : RowAt NL H d F) (few : NL.length ≤ 1000) (hd : H0 d = none) (e0 : Same H0 H) {x : Str} (m : x ∈ NL) {v : Int} {R : Hp → Prop} (q : ∀ H', Same H0 H' → RowAt NL H' d (setR F x v) → R H') :
    ∃ y H4, V.ref d = .ref y ∧ DPut H y (.str x) (.int v) H4 ∧ R H4 := by
  obtain ⟨N, f, h1, h2, h3, h4⟩ := h
  have hl := nodup_le N NL h2 h3
  refine ⟨d, _, rfl, dS_put h1 x v (by omega), q _ (same_mut e0 hd) ⟨_, _, upd_same, addN_nd h2 _, fun y my => ?_, fun y => ?_⟩⟩
  · rcases mem_addN.mp my with my | rfl
    · exact h3 y my
    · exact m
  · rw [tb_set]
    dsimp only
    unfold setR
    rw [h4]
theorem RowAt.nil {NL : List Str} {H : Hp} {d : Addr} (h : H d = some (.dK [])) : RowAt NL H d (fun _ => none) := ⟨[], fun _ => 0, h, List.nodup_nil, fun _ m => absurd m List.not_mem_nil, fun _ => rfl⟩
theorem RowAt.eq {NL : List Str} {H : Hp} {d : Addr} {F G : Row Str} (h : RowAt NL H d F) (e : F = G) : RowAt NL H d G := e ▸ h
theorem rl_set {F : Row Str} {t : Tie} {y : Int} (e : F t.1 = some y) (z : wins (F t.2.1) (y + t.2.2)) : rl F t = setR F t.2.1 (y + t.2.2) := by
  rw [rl_win e z]
  funext v
  unfold setR
  by_cases q : v = t.2.1
  · rw [if_pos q, if_pos q]
  · rw [if_neg q, if_neg q]
theorem src_set (s : Str) : setR (fun _ => none) s 0 = src s := by
  funext v
  unfold setR src
  by_cases q : v = s
  · rw [if_pos q, if_pos q]
  · rw [if_neg q, if_neg q]
/-- that all ties lose -/
theorem fix_lose {T : List Tie} {F : Row Str} (h : ∀ t ∈ T, ∀ y, F t.1 = some y → ¬ wins (F t.2.1) (y + t.2.2)) : Fix T F := fun a b n m d e => by
  have z := h _ m d e
  dsimp only at z
  cases q : F b with
  | none => rw [q] at z; exact absurd trivial z
  | some w =>
    rw [q] at z
    have z : ¬ d + n < w := z
    exact ⟨w, rfl, by omega⟩
theorem not_fix {T : List Tie} {F : Row Str} {t : Tie} (m : t ∈ T) {y : Int} (e : F t.1 = some y) (z : wins (F t.2.1) (y + t.2.2)) : ¬ Fix T F := fun f => by
  obtain ⟨w, e1, l⟩ := f t.1 t.2.1 t.2.2 m y e
  rw [e1] at z
  have z : y + t.2.2 < w := z
  omega
noncomputable def impB (U : List Tie) (t : Tie) : Bool := @decide (Imp U t) (Classical.propDecidable _)
theorem impB_yes {U : List Tie} {t : Tie} (h : Imp U t) : impB U t = true := @decide_eq_true _ (Classical.propDecidable _) h
theorem impB_no {U : List Tie} {t : Tie} (h : ¬ Imp U t) : impB U t = false := @decide_eq_false _ (Classical.propDecidable _) h
theorem imp_row {U : List Tie} {t : Tie} {h : Str → Int} {F : Row Str} (fe : Feas U h) (D : IsD U t.1 F) : Imp U t ↔ ∃ d, F t.2.1 = some d ∧ d ≤ t.2.2 := by
  constructor
  · rintro ⟨w, x, l⟩
    obtain ⟨d, q⟩ := fe.least x
    exact ⟨d, (D _ _).mpr q, Int.le_trans (q.2 _ x) l⟩
  · rintro ⟨d, e, l⟩
    exact ⟨d, ((D _ _).mp e).1, l⟩
section
variable {P : Program} {w : World} {K : PySem.W.Frag} {mg : Str → Option Value} {base : Heap}
/-! ### tie_follows -/
def spFollows : Sp := fun vs H Q _ => ∃ r p L t, vs = [.ref r, .ref p] ∧ H r = some (.lst (rf L)) ∧ TiesIn H L ∧ H p = some (tieO t) ∧ (∃ h, Feas (tv L) h) ∧ L.length ≤ 100 ∧ ∀ H', Same H H' → Q (.bl (impB (tv L) t)) H'
theorem oktie_follows (T : Tp K mg) : FnOk P w K mg base CX0 1 T.a_tie_follows T.d_tie_follows ["rows", "tie"] spFollows := by
  refine T.F_tie_follows.ok sctie_follows (fun vs H Q E h => ?_) (fun cdv A outer s H vs Q E hr h => ?_)
  · obtain ⟨r, p, L, t, rfl, _⟩ := h; rfl
  obtain ⟨r, p, L, t, rfl, hR, hL, hp, ⟨h0, fe⟩, few, q⟩ := h
  refine ⟨_, PSs.nox (pss_cons (ps_set (i := 2) sctie_follows.nd rfl (Or.inl rfl) pe_dnewK)
  (pss_cons (ps_dput (hu_of hr) (pv 2) (pe_ix ix_tup (pv 1) pe_int (fun _ _ => rfl)) pe_int rfl)
  (pss_cons (ps_set (i := 3) sctie_follows.nd rfl (Or.inl rfl) pe_bl)
  (pss_cons (ps_while PassesOwn.never (pt_val (pv 3)) (pss_cons (ps_set (i := 3) sctie_follows.nd rfl (Or.inl rfl) pe_bl)
  (pss_one (ps_for PassesOwn.never rfl (pi_list (pv 0)) (pg_tup rfl (pgs_cons (pg_name (i := 4) sctie_follows.nd rfl (Or.inl rfl)) (pgs_cons (pg_name (i := 5) sctie_follows.nd rfl (Or.inl rfl)) (pgs_cons (pg_name (i := 6) sctie_follows.nd rfl (Or.inl rfl)) pgs_nil)))) (pss_one (ps_if (PW.pt (pw_and (pt_cmp (pc_din (hu_of hr) (pv 4) (pv 2))) (pw_and1 (PW.pt (pw_or (pt_cmp (pc_dnotin (hu_of hr) (pv 5) (pv 2))) (pw_or1 (pt_cmpR op_lt (pe_op op_add (pe_dget (hu_of hr) (pv 2) (pv 4) (fun _ _ => rfl)) (pv 6)) (pe_dget (hu_of hr) (pv 2) (pv 5) (fun _ _ => rfl)) (nomark _)))))))) (pss_cons (ps_dput (hu_of hr) (pv 2) (pv 5) (pe_op op_add (pe_dget (hu_of hr) (pv 2) (pv 4) (fun _ _ => rfl)) (pv 6)) rfl)
  (pss_one (ps_set (i := 3) sctie_follows.nd rfl (Or.inl rfl) pe_bl))) pss_nil))))))
  (pss_one (ps_ret (pe_and (pe_cmp (pc_din (hu_of hr) (pe_ix ix_tup (pv 1) pe_int (fun _ _ => rfl)) (pv 2)) rfl) (pe_one (pe_cmpR op_le (pe_dget (hu_of hr) (pv 2) (pe_ix ix_tup (pv 1) pe_int (fun _ _ => rfl)) (fun _ _ => rfl)) (pe_ix ix_tup (pv 1) pe_int (fun _ _ => rfl)) (nomark _)))))))))), ?_⟩
  let NL : List Str := t.1 :: (tv L).map fun u => u.2.1
  have hNL : NL.length ≤ 1000 := by
    show ((tv L).map fun u => u.2.1).length + 1 ≤ 1000
    rw [List.length_map, tv_len]
    omega
  have hin : ∀ u ∈ tv L, u.2.1 ∈ NL := fun u m => List.mem_cons_of_mem _ (List.mem_map.mpr ⟨u, m, rfl⟩)
  intro d hd
  let SS (g : Bool) (y4 y5 y6 : Option V) : L2.St := [some (.ref r), some (.ref p), some (.ref d), some (.bl g), y4, y5, y6]
  have e0 := same_new (o := .dK []) hd
  have hp0 := e0 _ _ hp
  refine ⟨_, rfl, _, rfl, p, _, _, _, rfl, rfl, sq_t hp0, rfl, (RowAt.nil (NL := NL) upd_same).put hNL hd e0 List.mem_cons_self fun H1 e1 row => ?_⟩
  rw [src_set] at row
  refine ⟨fun m σ H2 => ∃ F g y4 y5 y6, σ = SS g y4 y5 y6 ∧ Same H H2 ∧ RowAt NL H2 d F ∧ Snd (tv L) t.1 F ∧ Ex1 (tv L) t.1 F t.1 ∧ (g = false → Fix (tv L) F) ∧ m = 2 * openN (tv L) t.1 NL F + (if g = true then 1 else 0),
    ⟨_, src t.1, true, none, none, none, rfl, e1, row, src_snd, src_ex fe, (fun z => nomatch z), rfl⟩, ?_⟩
  rintro m _ H2 ⟨F, g, y4, y5, y6, rfl, e2, row, S, X, fx, rfl⟩
  refine ⟨_, rfl, g, rfl, ite2 (fun hg => ?_) (fun hg => ?_)⟩
  · subst hg
    refine ⟨fun σ H3 => ∃ F' g y4 y5 y6, σ = SS g y4 y5 y6 ∧ Same H H3 ∧ RowAt NL H3 d F' ∧ Snd (tv L) t.1 F' ∧ Ex1 (tv L) t.1 F' t.1 ∧ (g = false → Fix (tv L) F') ∧ 2 * openN (tv L) t.1 NL F' + (if g = true then 1 else 0) < 2 * openN (tv L) t.1 NL F + 1, ?_, ?_⟩
    · rintro σ' H' ⟨F', g, y4, y5, y6, e, a1, a2, a3, a4, a5, a6⟩
      exact ⟨_, a6, F', g, y4, y5, y6, e, a1, a2, a3, a4, a5, rfl⟩
    · refine ⟨_, rfl, r, rfl, ⟨_, sq_l (e2 _ _ hR)⟩, ?_⟩
      refine for_it (walk_list (xs := rf L)) (fun i σ H3 => ∃ g y4 y5 y6, σ = SS g y4 y5 y6 ∧ Same H H3 ∧ RowAt NL H3 d (((tv L).take i).foldl rl F) ∧
        (g = false → ((tv L).take i).foldl rl F = F ∧ ∀ u ∈ (tv L).take i, ∀ y, F u.1 = some y → ¬ wins (F u.2.1) (y + u.2.2)) ∧ (g = true → ¬ Fix (tv L) F)) ⟨false, y4, y5, y6, rfl, e2, row, fun _ => ⟨rfl, fun _ m => absurd m List.not_mem_nil⟩, (fun z => nomatch z)⟩ (fun _ _ _ _ ⟨_, _, _, _, _, z, _⟩ => sq_l (z _ _ hR)) ?_ ?_
      · rintro i v _ H3 H3' hi ⟨g, y4, y5, y6, rfl, k1, k2, k3, k4⟩ ⟨rfl, hv⟩
        obtain ⟨⟨pu, u⟩, hq, rfl⟩ := rf_at hv
        have hpu : H3' pu = some (tieO u) := k1 _ _ (hL.at_ hq)
        have hqu : (tv L)[i]? = some u := at_tv hq
        have mu := List.mem_of_getElem? hqu
        rw [fold_one hqu]
        have tk := take_one hqu
        generalize hFi : ((tv L).take i).foldl rl F = Fi at k2 k3 ⊢
        -- nothing changed at this tie
        have stay : ∀ y4 y5 y6, (∀ y, Fi u.1 = some y → ¬ wins (Fi u.2.1) (y + u.2.2)) → ∃ g' y4' y5' y6', SS g y4 y5 y6 = SS g' y4' y5' y6' ∧ Same H H3' ∧ RowAt NL H3' d (rl Fi u) ∧
            (g' = false → rl Fi u = F ∧ ∀ u ∈ (tv L).take (i + 1), ∀ y, F u.1 = some y → ¬ wins (F u.2.1) (y + u.2.2)) ∧ (g' = true → ¬ Fix (tv L) F) := fun y4 y5 y6 lose => by
          have e : rl Fi u = Fi := by
            cases h1 : Fi u.1 with
            | none => exact rl_none h1
            | some y => exact rl_lose h1 (lose y h1)
          refine ⟨g, y4, y5, y6, rfl, k1, k2.eq e.symm, fun z => ?_, k4⟩
          obtain ⟨a1, a2⟩ := k3 z
          refine ⟨e.trans a1, fun u' m => ?_⟩
          rw [tk] at m
          rcases List.mem_append.mp m with m | m
          · exact a2 u' m
          · rw [List.mem_singleton.mp m, ← a1]
            exact lose
        have go : ∀ y4 y5 y6 y H4, Fi u.1 = some y → wins (Fi u.2.1) (y + u.2.2) → Same H H4 → RowAt NL H4 d (setR Fi u.2.1 (y + u.2.2)) → ∃ g' y4' y5' y6', SS true y4 y5 y6 = SS g' y4' y5' y6' ∧ Same H H4 ∧ RowAt NL H4 d (rl Fi u) ∧
            (g' = false → rl Fi u = F ∧ ∀ u ∈ (tv L).take (i + 1), ∀ y, F u.1 = some y → ¬ wins (F u.2.1) (y + u.2.2)) ∧ (g' = true → ¬ Fix (tv L) F) := fun y4 y5 y6 y H4 h1 hw b1 b2 => by
          refine ⟨true, y4, y5, y6, rfl, b1, b2.eq (rl_set h1 hw).symm, (fun z => nomatch z), fun _ => ?_⟩
          cases g with
          | true => exact k4 rfl
          | false =>
            have a1 := (k3 rfl).1
            rw [a1] at h1 hw
            exact not_fix mu h1 hw
        refine ⟨pu, _, rfl, sq_t hpu, rfl, _, _, rfl, _, _, rfl, _, _, rfl, rfl, ?_⟩
        refine ⟨_, rfl, _, rfl, d, _, rfl, k2.get u.1, _, rfl, ?_⟩
        cases h1 : Fi u.1 with
        | none => exact stay _ _ _ fun y e => absurd (h1.symm.trans e) (fun z => nomatch z)
        | some y =>
          refine ⟨_, rfl, _, rfl, d, _, rfl, k2.get u.2.1, _, rfl, ?_⟩
          cases h2 : Fi u.2.1 with
          | none =>
            have hw : wins (Fi u.2.1) (y + u.2.2) := by rw [h2]; trivial
            refine ⟨_, rfl, _, rfl, d, _, rfl, k2.has h1, _, rfl, _, _, rfl, rfl, _, rfl, _, rfl, k2.put hNL hd k1 (hin u mu) fun H4 b1 b2 => go _ _ _ y H4 h1 hw b1 b2⟩
          | some z =>
            refine ⟨_, rfl, _, rfl, d, _, rfl, k2.has h1, _, rfl, _, _, rfl, rfl, _, rfl, _, rfl, d, _, rfl, k2.has h2, _, _, rfl, rfl, _, rfl, ite2 (fun lt => ?_) (fun lt => ?_)⟩
            · have lt : y + u.2.2 < z := of_decide_eq_true lt
              have hw : wins (Fi u.2.1) (y + u.2.2) := by rw [h2]; exact lt
              refine ⟨_, rfl, _, rfl, d, _, rfl, k2.has h1, _, rfl, _, _, rfl, rfl, _, rfl, _, rfl, k2.put hNL hd k1 (hin u mu) fun H4 b1 b2 => go _ _ _ y H4 h1 hw b1 b2⟩
            · refine stay _ _ _ fun y' e' hw => ?_
              rw [h1] at e'
              rw [← Option.some.inj e', h2] at hw
              have hw : y + u.2.2 < z := hw
              exact lt (decide_eq_true hw)
      · rintro _ H3 ⟨g, y4, y5, y6, rfl, k1, k2, k3, k4⟩
        rw [show (tv L).take (rf L).length = tv L by rw [rf_len, ← tv_len, List.take_length]] at k2 k3
        have S2 : Snd (tv L) t.1 ((tv L).foldl rl F) := S.round
        have X2 : Ex1 (tv L) t.1 ((tv L).foldl rl F) t.1 := X.round S
        refine ⟨(tv L).foldl rl F, g, y4, y5, y6, rfl, k1, k2, S2, X2, fun hg => ?_, ?_⟩
        · obtain ⟨a1, a2⟩ := k3 hg
          rw [a1]
          exact fix_lose a2
        · cases g with
          | false =>
            rw [(k3 rfl).1]
            show 2 * openN (tv L) t.1 NL F + 0 < _
            omega
          | true =>
            rcases openN_round (L := NL) fe S X hin with z | z
            · have z : openN (tv L) t.1 NL ((tv L).foldl rl F) < openN (tv L) t.1 NL F := z
              show 2 * openN (tv L) t.1 NL ((tv L).foldl rl F) + 1 < _
              omega
            · exact absurd (fix_of_none S z) (k4 rfl)
  · have hg : g = false := by cases g with | false => rfl | true => exact absurd rfl hg
    have D : IsD (tv L) t.1 F := by
      obtain ⟨d0, x1, x2⟩ := X
      refine isD_of S (fx hg) x1 ?_
      have := x2.2 0 (.stay _)
      omega
    have hp2 := e2 _ _ hp
    have im := imp_row fe D
    refine ⟨_, rfl, p, _, _, _, rfl, rfl, sq_t hp2, rfl, _, rfl, d, _, rfl, row.get t.2.1, ?_⟩
    have q2 := q H2 e2
    cases h1 : F t.2.1 with
    | none =>
      rw [impB_no fun z => by
        obtain ⟨x, e, _⟩ := im.mp z
        rw [h1] at e
        cases e] at q2
      exact ⟨_, rfl, q2⟩
    | some x =>
      refine ⟨_, rfl, _, rfl, _, rfl, p, _, _, _, rfl, rfl, sq_t hp2, rfl, d, _, rfl, row.has h1, _, rfl, p, _, _, _, rfl, rfl, sq_t hp2, rfl, _, _, rfl, rfl, ?_⟩
      have e : impB (tv L) t = decide (x ≤ t.2.2) := by
        by_cases l : x ≤ t.2.2
        · rw [decide_eq_true l, impB_yes (im.mpr ⟨x, h1, l⟩)]
        · rw [decide_eq_false l, impB_no fun z => by
            obtain ⟨x', e, l'⟩ := im.mp z
            rw [h1] at e
            rw [← Option.some.inj e] at l'
            exact l l']
      rw [e] at q2
      exact q2
end
end Sw
namespace Sw
open PySem PySem.Spec PyProof.Rows L2 Wr WM
/-! ### leaning -/
def withoutL (L : TL) (k : Nat) : TL := L.take k ++ L.drop (k + 1)
theorem tv_without (L : TL) (k : Nat) : tv (withoutL L k) = WM.without (tv L) k := by
  unfold withoutL WM.without tv
  rw [List.map_append, List.map_take, List.map_drop]
theorem rf_without (L : TL) (k : Nat) : (rf L).take k ++ (rf L).drop (k + 1) = rf (withoutL L k) := by
  unfold withoutL rf
  rw [List.map_append, List.map_take, List.map_drop]
theorem mem_without {L : TL} {k : Nat} {q : Addr × Tie} (m : q ∈ withoutL L k) : q ∈ L := by
  rcases List.mem_append.mp m with m | m
  · exact List.mem_of_mem_take m
  · exact List.mem_of_mem_drop m
theorem len_without {L : TL} {k : Nat} (h : k < L.length) : (withoutL L k).length + 1 = L.length := by
  unfold withoutL
  rw [List.length_append, List.length_take, List.length_drop]
  omega
section
variable {P : Program} {w : World} {K : PySem.W.Frag} {mg : Str → Option Value} {base : Heap}
def spLean (C : Addr) : Sp := fun vs H Q _ => ∃ a L, vs = [.ref a] ∧ BoxAt C H a L ∧ TsOk (tv L) ∧ (∃ h, Feas (tv L) h) ∧
  ∀ H' p M, Same H H' → H' p = some (.tup (rf M)) → (∀ q ∈ M, q ∈ L) → M.length ≤ L.length → tv M = lean (tv L) 0 → Q (.ref p) H'
theorem oklean_ties (T : Tp K mg) : FnOk P w K mg base CX0 5 T.a_lean_ties T.d_lean_ties ["ties"] (spLean T.a_Ties) := by
  refine T.F_lean_ties.ok sclean_ties (fun vs H Q E h => ?_) (fun cdv A outer s H vs Q E hr h => ?_)
  · obtain ⟨a, L, rfl, _⟩ := h; rfl
  obtain ⟨a, L, rfl, hb, ok, ⟨h0, fe⟩, q⟩ := h
  refine ⟨_, PSs.nox (pss_cons (ps_set (i := 1) sclean_ties.nd rfl (Or.inl rfl) (pe_call (okplaced T) (hr.mono (by decide)) (by rfl) T.g_placed T.F_placed.kp (b_placed T) .nil pass0 (pa_cons (pv 0) pa_nil)))
  (pss_cons (ps_if (pt_cmpR op_eq (pe_ix ix_tup (pv 1) pe_int (fun _ _ => rfl)) pe_str (nomark _)) (pss_one ps_never) pss_nil)
  (pss_cons (ps_set (i := 2) sclean_ties.nd rfl (Or.inl rfl) (pe_callTy call_list_of (by rfl) T.m_list (by decide +kernel) (pa_cons (pe_fld (pv 0) rfl) pa_nil)))
  (pss_cons (ps_set (i := 3) sclean_ties.nd rfl (Or.inl rfl) pe_int)
  (pss_cons (ps_while PassesOwn.never (pt_cmpR op_lt (pv 3) (pe_callB call_len_seq (by rfl) T.m_len PySem.boot_len (pa_cons (pv 2) pa_nil)) (nomark _)) (pss_cons (ps_set (i := 4) sclean_ties.nd rfl (Or.inl rfl) (pe_op op_cat (pe_slice sl_list (pv 2) po_none (po_some (pv 3))) (pe_slice sl_list (pv 2) (po_some (pe_op op_add (pv 3) pe_int)) po_none)))
  (pss_one (ps_if (pt_val (pe_call (oktie_follows T) (hr.mono (by decide)) (by rfl) T.g_tie_follows T.F_tie_follows.kp (b_tie_follows T) .nil pass0 (pa_cons (pv 4) (pa_cons (pe_ix ix_list (pv 2) (pv 3) (fun _ _ => rfl)) pa_nil)))) (pss_one (ps_set (i := 2) sclean_ties.nd rfl (Or.inl rfl) (pv 4))) (pss_one (ps_set (i := 3) sclean_ties.nd rfl (Or.inl rfl) (pe_op op_add (pv 3) pe_int)))))))
  (pss_one (ps_ret (pe_callTy call_tuple_of (by rfl) T.m_tuple (by decide +kernel) (pa_cons (pv 2) pa_nil))))))))), ?_⟩
  have few := ok.few
  rw [tv_len] at few
  refine ⟨_, rfl, a, L, rfl, hb, ok, fun ns lots => ⟨fun H1 p dd hh e1 f1 hp hd => ?_, fun H1 p dd l e1 r1 r2 => absurd fe (r2 h0)⟩⟩
  clear hd f1 lots
  refine ⟨_, rfl, p, _, _, _, rfl, rfl, sq_t hp, rfl, rfl, _, rfl, ite2 (fun z => absurd (of_decide_eq_true z) (by intro z; exact absurd (V.str.inj z) (by decide +kernel))) (fun _ => ?_)⟩
  have ⟨dx, r, b1, b2, b3⟩ := hb
  refine ⟨_, rfl, a, _, dx, _, _, rfl, e1 _ _ b1, T.cl_Ties, T.na_rows, rfl, r, rf L, rfl, .inr (sq_t (e1 _ _ b2)), fun l hl => ?_⟩
  have e2 := e1.trans (same_new (o := .lst (rf L)) hl)
  let SS (l : Addr) (k : Nat) (y4 : Option V) : L2.St := [some (.ref a), some (.ref p), some (.ref l), some (.int ((k : Nat) : Int)), y4]
  refine ⟨fun m σ H2 => ∃ M k pl y4, σ = SS pl k y4 ∧ Same H H2 ∧ H2 pl = some (.lst (rf M)) ∧ (∀ q ∈ M, q ∈ L) ∧ M.length ≤ L.length ∧ lean (tv M) k = lean (tv L) 0 ∧ k ≤ M.length ∧ m = M.length - k, ⟨_, L, 0, l, none, rfl, e2, upd_same, fun _ m => m, Nat.le_refl _, rfl, Nat.zero_le _, rfl⟩, ?_⟩
  rintro m _ H2 ⟨M, k, pl, y4, rfl, e3, h1, h2, h3, h4, h5, rfl⟩
  refine ⟨_, rfl, _, rfl, pl, _, rfl, .inl (sq_l h1), _, _, rfl, rfl, _, rfl, ite2 (fun lt => ?_) (fun lt => ?_)⟩
  · have lt : k < M.length := by
      have z : ((k : Nat) : Int) < (((rf M).length : Nat) : Int) := of_decide_eq_true lt
      rw [rf_len] at z
      omega
    refine ⟨fun σ H3 => ∃ M k' pl y4, σ = SS pl k' y4 ∧ Same H H3 ∧ H3 pl = some (.lst (rf M)) ∧ (∀ q ∈ M, q ∈ L) ∧ M.length ≤ L.length ∧ lean (tv M) k' = lean (tv L) 0 ∧ k' ≤ M.length ∧ M.length - k' < _, fun σ' H' ⟨M', k', pl', y', a1, a2, a3, a4, a5, a6, a7, a8⟩ => ⟨_, a8, M', k', pl', y', a1, a2, a3, a4, a5, a6, a7, rfl⟩, ?_⟩
    refine ⟨_, rfl, _, rfl, _, rfl, pl, _, rfl, sq_l h1, fun p1 hp1 => ?_⟩
    rw [cut_take]
    have n1 := same_new (o := .lst ((rf M).take k)) hp1
    refine ⟨_, rfl, _, rfl, _, _, rfl, rfl, _, rfl, pl, _, rfl, sq_l (n1 _ _ h1), fun p2 hp2 => ?_⟩
    have cd : cutV (rf M) (some (((k : Nat) : Int) + 1)) none = (rf M).drop (k + 1) := cut_drop (rf M) (k + 1)
    rw [cd]
    have n2 := same_new (o := .lst ((rf M).drop (k + 1))) hp2
    refine ⟨p1, p2, _, _, rfl, rfl, n2 _ _ upd_same, upd_same, ?_, fun p3 hp3 => ?_⟩
    · rw [List.length_take, List.length_drop, rf_len]
      exact small (by omega)
    rw [rf_without]
    have n3 := same_new (o := .lst (rf (withoutL M k))) hp3
    have e4 := ((e3.trans n1).trans n2).trans n3
    have h1' := n3 _ _ (n2 _ _ (n1 _ _ h1))
    have u3 : (upd (upd (upd H2 p1 (.lst ((rf M).take k))) p2 (.lst ((rf M).drop (k + 1)))) p3 (.lst (rf (withoutL M k)))) p3 = some (.lst (rf (withoutL M k))) := upd_same
    generalize (upd (upd (upd H2 p1 (.lst ((rf M).take k))) p2 (.lst ((rf M).drop (k + 1)))) p3 (.lst (rf (withoutL M k)))) = H3 at e4 h1' u3 ⊢
    obtain ⟨⟨pt, t⟩, hq⟩ : ∃ q, M[k]? = some q := ⟨M[k], List.getElem?_eq_getElem lt⟩
    have mq := List.mem_of_getElem? hq
    have hpt : H3 pt = some (tieO t) := e4 _ _ (b3 _ (h2 _ mq))
    have lw := len_without lt
    refine ⟨_, rfl, _, rfl, _, rfl, pl, _, _, _, rfl, rfl, sq_l h1', atI_nat (at_rf hq), ?_⟩
    have sub : ∀ u ∈ tv (withoutL M k), u ∈ tv L := fun u m => by
      obtain ⟨q', m', rfl⟩ := mem_tv m
      exact List.mem_map.mpr ⟨q', h2 _ (mem_without m'), rfl⟩
    refine ⟨p3, pt, withoutL M k, t, rfl, u3, (b3.mono e4).sub fun q' m => h2 _ (mem_without m), hpt, ⟨h0, fe.mono sub⟩, by omega, fun H4 e5 => ⟨_, rfl, ite2 (fun z => ?_) (fun z => ?_)⟩⟩
    · have kl : k < (tv M).length := by rw [tv_len]; exact lt
      have gt : (tv M)[k] = t := by
        have z := at_tv hq
        rw [List.getElem?_eq_getElem kl] at z
        exact Option.some.inj z
      have im : Imp (WM.without (tv M) k) (tv M)[k] := by
        rw [gt, ← tv_without]
        by_cases y : Imp (tv (withoutL M k)) t
        · exact y
        · rw [impB_no y] at z; exact absurd z (by decide)
      refine ⟨_, rfl, withoutL M k, k, p3, _, rfl, e4.trans e5, e5 _ _ u3, fun q' m => h2 _ (mem_without m), by omega, ?_, by omega, by omega⟩
      rw [tv_without, ← lean_yes kl im]
      exact h4
    · have kl : k < (tv M).length := by rw [tv_len]; exact lt
      have gt : (tv M)[k] = t := by
        have z := at_tv hq
        rw [List.getElem?_eq_getElem kl] at z
        exact Option.some.inj z
      have im : ¬ Imp (WM.without (tv M) k) (tv M)[k] := by
        rw [gt, ← tv_without]
        intro y
        exact z (impB_yes y)
      refine ⟨_, rfl, _, _, rfl, rfl, M, k + 1, pl, _, rfl, e4.trans e5, e5 _ _ h1', h2, h3, ?_, by omega, by omega⟩
      rw [← lean_no kl im]
      exact h4
  · have ge : ¬ k < M.length := fun z => lt (decide_eq_true (by rw [rf_len]; omega))
    refine ⟨_, rfl, pl, _, rfl, .inl ⟨sq_l h1, fun p1 hp1 => ?_⟩⟩
    rw [lean_out (by rw [tv_len]; exact ge)] at h4
    exact q _ p1 M (e3.trans (same_new hp1)) upd_same h2 h3 h4
end
end Sw
namespace Sw
open PySem PySem.Spec PyProof.Rows L2 Wr WM
/-- [x for x in xs if t]: a test that tracks nothing anew -/
theorem lc_keep {J : It} {n : Nat} {G : Hp → Prop} {xs : List V} (w : Walk J n G (YAt xs)) (hn : n = xs.length) {tt : TT} {vs : List Nat} {σ : L2.St} {H1 : Hp} {D : Addr} {Qd : Hp → Prop} {j : Nat} (keep : V → Bool) (hD : H1 D = none) (hG : ∀ H', Same H1 H' → G H') (hl : xs.length < 100000)
    (hw : ∀ x, wipe ((wipe σ vs).set j (some x)) vs = wipe σ vs) (hv : ∀ x, ((wipe σ vs).set j (some x))[j]? = some (some x))
    (ht : ∀ (i : Nat) (x : V) (H' : Hp), xs[i]? = some x → Same H1 H' → ∀ R : Bool → Hp → Prop, (∀ H3, Same H' H3 → R (keep x) H3) → tt ((wipe σ vs).set j (some x)) H' R) (hd : ∀ H', Same H1 H' → H' D = some (.lst (xs.filter keep)) → Qd H') :
    ∃ W : Nat → Nat → Hp → Prop, (∃ m, W 0 m (upd H1 D (.lst []))) ∧ ∀ i m H, W i m H →
      (J.stop i H ∧ Qd H) ∨ (J.go i H ∧ ∃ Nx : Hp → Prop, (∀ H', Nx H' → ∃ m', m' < m ∧ W (i + 1) m' H') ∧ ∀ x H', J.yld i H x H' → gName j x (wipe σ vs) H' fun σ2 H2 => wipe σ2 vs = wipe σ vs ∧ tt σ2 H2 fun b H3 =>
        if b = true then tVar j σ2 H3 fun y H4 => ∃ acc, H4 D = some (.lst acc) ∧ acc.length < sizeLine ∧ Nx (upd H4 D (.lst (acc ++ [y]))) else Nx H3) := by
  subst hn
  refine lc_it w (fun i H' => Same H1 H' ∧ H' D = some (.lst ((xs.take i).filter keep))) ⟨same_new hD, upd_same⟩ (fun i H' _ p => hG H' p.1) ?_ ?_
  · rintro i x H' H2 hi ⟨e1, e2⟩ ⟨rfl, hx⟩
    refine ⟨hw x, ht i x _ hx e1 _ fun H3 e3 => ?_⟩
    have tk : (xs.take (i + 1)).filter keep = (xs.take i).filter keep ++ [x].filter keep := by rw [take_one hx, List.filter_append]
    by_cases k : keep x = true
    · rw [k, if_pos rfl]
      refine ⟨x, hv x, _, e3 _ _ e2, small' ?_, same_mut (e1.trans e3) hD, ?_⟩
      · have h1 := List.length_filter_le keep (xs.take i)
        rw [List.length_take] at h1
        omega
      · rw [upd_same, tk, List.filter_cons_of_pos k]
        rfl
    · have k : keep x = false := by simpa using k
      rw [k, if_neg Bool.false_ne_true]
      refine ⟨e1.trans e3, ?_⟩
      rw [tk, List.filter_cons_of_neg (by rw [k]; decide), List.filter_nil, List.append_nil]
      exact e3 _ _ e2
  · rintro H' ⟨e1, e2⟩
    rw [List.take_length] at e2
    exact hd H' e1 e2
section
variable {P : Program} {w : World} {K : PySem.W.Frag} {mg : Str → Option Value} {base : Heap}
/-! ### _law_p2_lots -/
def spPLots (K : PySem.W.Frag) : Sp := fun vs H Q _ => ∃ a L, vs = [.ref a] ∧ SqL K H a (rf L) ∧ TiesIn H L ∧ TsOk (tv L) ∧ ∀ H' p ns, Same H H' → H' p = some (.lst (ns.map V.str)) → Lots (tv L) ns → Q (.ref p) H'
theorem ok_law_p2_lots (T : Tp K mg) : FnOk P w K mg base CX0 1 T.a__law_p2_lots T.d__law_p2_lots ["_law_ties"] (spPLots K) := by
  refine T.F__law_p2_lots.ok sc_law_p2_lots (fun vs H Q E h => ?_) (fun cdv A outer s H vs Q E hr h => ?_)
  · obtain ⟨a, L, rfl, _⟩ := h; rfl
  obtain ⟨a, L, rfl, ha, hL, ok, q⟩ := h
  refine ⟨_, PSs.nox (pss_cons (ps_set (i := 1) sc_law_p2_lots.nd rfl (Or.inr rfl) (pe_lst pa_nil))
  (pss_cons (ps_for PassesOwn.never rfl (pi_list (pv 0)) (pg_name (i := 2) sc_law_p2_lots.nd rfl (Or.inl rfl)) (pss_one (ps_set (i := 1) sc_law_p2_lots.nd rfl (Or.inr rfl) (pe_op op_cat (pv 1) (pe_lc (own := [("_law_name_here", 3)]) (te := (tVar 3)) (tt := (tAnd (tTest (tOp _ (tVar 3) (tC (.str "")))) (tTest (tOp (rIn K true) (tVar 3) (tVar 1))))) rfl sc_law_p2_lots.nd (pi_tup (pe_slice sl_tup (pv 2) po_none (po_some pe_int))) (blkOk_by (own := [("_law_name_here", 3)]) (N := N_law_p2_lots) (sc := defScope s_law_p2_lots) (by decide +kernel)) (fun _ _ _ _ _ => (pg_name (i := 3) sc_law_p2_lots.nd rfl (Or.inl rfl))) (fun _ _ _ _ _ => (pts_one (PW.pt (pw_and (pt_cmpR op_ne (pv 3) pe_str (nomark _)) (pw_and1 (pt_cmpR op_notIn_seq (pv 3) (pv 1) (by rfl))))))) (fun _ _ _ _ _ => (pv 3)))))))
  (pss_one (ps_ret (pe_callB cr_sortedS (by rfl) T.m_sorted (by decide +kernel) (pa_cons (pv 1) pa_nil)))))), ?_⟩
  obtain ⟨NL, hn1, hn2⟩ := ok.nm
  refine ⟨sz0, fun p0 hp0 => ?_⟩
  have e0 := same_new (o := .lst []) hp0
  let SS (l : Addr) (y2 y3 : Option V) : L2.St := [some (.ref a), some (.ref l), y2, y3]
  let M (i : Nat) (l : List Str) : Prop := l.Nodup ∧ ∀ x, x ∈ l ↔ x ≠ "" ∧ ∃ t ∈ (tv L).take i, x = t.1 ∨ x = t.2.1
  have few : ∀ i l, M i l → l.length ≤ 20 := fun i l h => Nat.le_trans (nodup_le l NL h.1 fun x m => by
    obtain ⟨_, u, mu, e⟩ := (h.2 x).mp m
    have z := hn2 u (List.mem_of_mem_take mu)
    rcases e with rfl | rfl
    · exact z.1
    · exact z.2) hn1
  refine ⟨_, rfl, a, rfl, ⟨_, Same.seq e0 ha⟩, ?_⟩
  refine for_it (walk_list (xs := rf L)) (fun i σ H1 => ∃ p l y2 y3, σ = SS p y2 y3 ∧ Same H H1 ∧ H1 p = some (.lst (l.map V.str)) ∧ M i l) ⟨p0, [], none, none, rfl, e0, upd_same, List.nodup_nil, fun x => ⟨fun m => absurd m List.not_mem_nil, fun ⟨_, t, m, _⟩ => absurd m List.not_mem_nil⟩⟩
    (fun _ _ _ _ ⟨_, _, _, _, _, z, _⟩ => Same.seq z ha) ?_ ?_
  · rintro i v _ H1 H1' hi ⟨p, l, y2, y3, rfl, k1, k2, k3⟩ ⟨rfl, hv⟩
    obtain ⟨⟨pt, t⟩, hq, rfl⟩ := rf_at hv
    have hpt : H1' pt = some (tieO t) := k1 _ _ (hL.at_ hq)
    have hqt : (tv L)[i]? = some t := at_tv hq
    have tne := (ok.ok t (List.mem_of_getElem? hqt)).ne
    have tk := take_one hqt
    refine ⟨_, rfl, _, rfl, 2, rfl, pt, _, rfl, sq_t hpt, (fun z => absurd (show 2 = 3 from z.2) (by decide)), fun c hc => ?_⟩
    rw [show cutV [V.str t.1, V.str t.2.1, V.int t.2.2] none (some 2) = [V.str t.1, V.str t.2.1] from cut_take _ 2]
    have n1 := same_new (o := .tup [.str t.1, .str t.2.1]) hc
    have u1 : (upd H1' c (.tup [.str t.1, .str t.2.1])) c = some (.tup [.str t.1, .str t.2.1]) := upd_same
    generalize upd H1' c (.tup [.str t.1, .str t.2.1]) = H2 at n1 u1 ⊢
    refine ⟨c, rfl, ⟨_, sq_t u1⟩, fun D hD => ?_⟩
    let keep : V → Bool := fun v => match v with | .str x => !decide (x = "") && !decide (x ∈ l) | _ => false
    have h2 := n1 _ _ k2
    refine lc_keep (walk_tup (xs := [V.str t.1, V.str t.2.1])) rfl keep hD (fun H' e => sq_t (e _ _ u1)) (by show 2 < 100000; decide) (fun _ => rfl) (fun _ => rfl) ?_ ?_
    · intro j x H3 hx e3 R hR
      obtain ⟨z, rfl⟩ : ∃ z, x = .str z := by
        match j, hx with
        | 0, hx => exact ⟨_, (Option.some.inj hx).symm⟩
        | 1, hx => exact ⟨_, (Option.some.inj hx).symm⟩
      have hk : keep (V.str z) = (!decide (z = "") && !decide (z ∈ l)) := rfl
      refine ⟨_, rfl, rfl, _, rfl, ite2 (fun ne => ?_) (fun ne => ?_)⟩
      · have ne : z ≠ "" := fun e => by
          rw [decide_eq_true (by rw [e])] at ne
          exact absurd ne (by decide)
        refine ⟨_, rfl, _, rfl, p, _, rfl, .inl (sq_l (e3 _ _ h2)), rfl, strs_flat _, _, rfl, ?_⟩
        have z1 := hR H3 (Same.refl _)
        rw [hk, decide_eq_false ne, Bool.not_false, Bool.true_and, ← inV_strs] at z1
        exact z1
      · have e : z = "" := by
          by_cases e : z = ""
          · exact e
          · rw [decide_eq_false fun w => e (V.str.inj w)] at ne
            exact absurd rfl ne
        have z1 := hR H3 (Same.refl _)
        rw [hk, decide_eq_true e, Bool.not_true, Bool.false_and] at z1
        exact z1
    · intro H3 e3 hD3
      let M2 : List Str := [t.1, t.2.1].filter fun x => !decide (x = "") && !decide (x ∈ l)
      have em : [V.str t.1, V.str t.2.1].filter keep = M2.map V.str := by
        show ([t.1, t.2.1].map V.str).filter keep = _
        rw [List.filter_map]
        rfl
      rw [em] at hD3
      have mem2 : ∀ x, x ∈ M2 ↔ (x = t.1 ∨ x = t.2.1) ∧ x ≠ "" ∧ x ∉ l := fun x => by
        rw [List.mem_filter]
        simp
      have h3 := e3 _ _ h2
      have mk2 : M (i + 1) (l ++ M2) := by
        refine ⟨List.nodup_append.mpr ⟨k3.1, ?_, fun x mx y my => ?_⟩, fun x => ?_⟩
        · exact List.Nodup.sublist List.filter_sublist (List.nodup_cons.mpr ⟨fun m => tne (List.mem_singleton.mp m), by simp⟩)
        · intro e
          exact ((mem2 y).mp my).2.2 (e ▸ mx)
        · rw [List.mem_append, k3.2, mem2, tk]
          constructor
          · rintro (⟨h1, u, mu, e⟩ | ⟨e, h1, _⟩)
            · exact ⟨h1, u, List.mem_append_left _ mu, e⟩
            · exact ⟨h1, t, List.mem_append_right _ (List.mem_singleton.mpr rfl), e⟩
          · rintro ⟨h1, u, mu, e⟩
            by_cases xl : x ∈ l
            · exact .inl ((k3.2 x).mp xl)
            · rcases List.mem_append.mp mu with mu | mu
              · exact .inl ⟨h1, u, mu, e⟩
              · rw [List.mem_singleton.mp mu] at e
                exact .inr ⟨e, h1, xl⟩
      have lw := few _ _ mk2
      refine ⟨p, D, _, _, rfl, rfl, h3, hD3, ?_, fun p2 hp2 => ?_⟩
      · rw [List.length_map, List.length_map, ← List.length_append]
        exact small (by omega)
      · refine ⟨p2, l ++ M2, _, _, rfl, ((k1.trans n1).trans e3).trans (same_new hp2), ?_, mk2⟩
        rw [upd_same, List.map_append]
  · rintro _ H1 ⟨p, l, y2, y3, rfl, k1, k2, k3⟩
    rw [show (rf L).length = (tv L).length by rw [rf_len, tv_len]] at k3
    have l20 := few _ _ k3
    have k4 : ∀ x, x ∈ l ↔ x ≠ "" ∧ ∃ t ∈ tv L, x = t.1 ∨ x = t.2.1 := fun x => by
      have z := k3.2 x
      rwa [List.take_length] at z
    refine ⟨_, rfl, p, l, rfl, sq_l k2, by omega, fun ys p2 pm srt hp2 => ?_⟩
    exact q _ p2 ys (k1.trans (same_new hp2)) upd_same ⟨srt, pm.nodup_iff.mpr k3.1, fun x => by rw [pm.mem_iff, k4]⟩
end
end Sw
namespace Sw
open PySem PySem.Spec PyProof.Rows L2 Wr WM
/-! ### filters of ties -/
theorem filt_no {α : Type} (xs : List α) : xs.filter (fun _ => false) = [] := List.filter_eq_nil_iff.mpr fun _ _ z => nomatch z
theorem filt_yes {α : Type} (xs : List α) : xs.filter (fun _ => true) = xs := List.filter_eq_self.mpr fun _ _ => rfl
def keepT (H : Hp) (g : Tie → Bool) : V → Bool := fun v => match v with
  | .ref p => (match H p with
    | some (.tup [.str a, .str b, .int n]) => g (a, b, n)
    | _ => false)
  | _ => false
theorem keepT_at {H : Hp} {g : Tie → Bool} {p : Addr} {t : Tie} (h : H p = some (tieO t)) : keepT H g (.ref p) = g t := by
  obtain ⟨a, b, n⟩ := t
  unfold keepT
  dsimp only
  rw [h]
  rfl
theorem rf_filter {H : Hp} {g : Tie → Bool} : ∀ {L : TL}, TiesIn H L → (rf L).filter (keepT H g) = rf (L.filter fun q => g q.2)
  | [], _ => rfl
  | q :: L, h => by
    have ih := rf_filter (g := g) fun p (m : p ∈ L) => h p (List.mem_cons_of_mem _ m)
    have e := keepT_at (g := g) (h q List.mem_cons_self)
    show (V.ref q.1 :: rf L).filter (keepT H g) = _
    by_cases z : g q.2 = true
    · rw [List.filter_cons_of_pos (by rw [e]; exact z), List.filter_cons_of_pos (p := fun q : Addr × Tie => g q.2) z, ih]
      rfl
    · rw [List.filter_cons_of_neg (by rw [e]; exact z), List.filter_cons_of_neg (p := fun q : Addr × Tie => g q.2) z, ih]
theorem tv_filter (L : TL) (g : Tie → Bool) : tv (L.filter fun q => g q.2) = (tv L).filter g := by
  unfold tv
  rw [List.filter_map]
  rfl
theorem TiesIn.filter {H : Hp} {L : TL} (h : TiesIn H L) (g : Addr × Tie → Bool) : TiesIn H (L.filter g) := h.sub fun q m => (List.mem_filter.mp m).1
/-! ### whether days keep ties -/
def lateB (h : Str → Int) (t : Tie) : Bool := decide (h t.1 + t.2.2 < h t.2.1)
def fitsB (T : List Tie) (h : Str → Int) : Bool := decide ((T.filter (lateB h)).length = 0)
theorem fitsB_iff {T : List Tie} {h : Str → Int} : fitsB T h = true ↔ Feas T h := by
  unfold fitsB
  rw [decide_eq_true_eq, List.length_eq_zero_iff, List.filter_eq_nil_iff]
  constructor
  · intro z a b n m
    have y := z _ m
    unfold lateB at y
    have y : ¬ h a + n < h b := fun w => y (decide_eq_true w)
    omega
  · intro f t m y
    have y : h t.1 + t.2.2 < h t.2.1 := of_decide_eq_true y
    have := f t.1 t.2.1 t.2.2 m
    omega
theorem fitsB_no {T : List Tie} {h : Str → Int} (z : ¬ Feas T h) : fitsB T h = false := by
  cases e : fitsB T h with
  | false => rfl
  | true => exact absurd (fitsB_iff.mp e) z
section
variable {P : Program} {w : World} {K : PySem.W.Frag} {mg : Str → Option Value} {base : Heap}
def spFits : Sp := fun vs H Q _ => ∃ r d L N f, vs = [.ref r, .ref d] ∧ (H r = some (.lst (rf L)) ∨ H r = some (.tup (rf L))) ∧ TiesIn H L ∧ H d = some (dS N f) ∧ (∀ t ∈ tv L, t.1 ∈ N ∧ t.2.1 ∈ N) ∧ L.length ≤ 1000 ∧ ∀ H', Same H H' → Q (.bl (fitsB (tv L) f)) H'
theorem ok_law_p2_fits (T : Tp K mg) : FnOk P w K mg base CX0 1 T.a__law_p2_fits T.d__law_p2_fits ["_law_ties", "_law_days"] spFits := by
  refine T.F__law_p2_fits.ok sc_law_p2_fits (fun vs H Q E h => ?_) (fun cdv A outer s H vs Q E hr h => ?_)
  · obtain ⟨r, d, L, N, f, rfl, _⟩ := h; rfl
  obtain ⟨r, d, L, N, f, rfl, hR, hL, hd, hN, few, q⟩ := h
  refine ⟨_, PSs.nox (pss_one (ps_ret (pe_cmpR op_eq (pe_callB call_len_seq (by rfl) T.m_len PySem.boot_len (pa_cons (pe_lc (own := [("_law_tie", 2)]) (te := (tVar 2)) (tt := (tTest (tOp _ (tDGet (tVar 1) (tOp (rIxT K) (tVar 2) (tC (.int 1)))) (tOp _ (tDGet (tVar 1) (tOp (rIxT K) (tVar 2) (tC (.int 0)))) (tOp (rIxT K) (tVar 2) (tC (.int 2))))))) rfl sc_law_p2_fits.nd (pi_or (pi_list (pv 0)) (pi_tup (pv 0))) (blkOk_by (own := [("_law_tie", 2)]) (N := N_law_p2_fits) (sc := defScope s_law_p2_fits) (by decide +kernel)) (fun _ _ _ _ _ => (pg_name (i := 2) sc_law_p2_fits.nd rfl (Or.inl rfl))) (fun _ _ _ _ _ => (pts_one (pt_cmpR op_gt (pe_dget (hu_of hr) (pv 1) (pe_ix ix_tup (pv 2) pe_int (fun _ _ => rfl)) (fun _ _ => rfl)) (pe_op op_add (pe_dget (hu_of hr) (pv 1) (pe_ix ix_tup (pv 2) pe_int (fun _ _ => rfl)) (fun _ _ => rfl)) (pe_ix ix_tup (pv 2) pe_int (fun _ _ => rfl))) (nomark _)))) (fun _ _ _ _ _ => (pv 2))) pa_nil)) pe_int (nomark _)))), ?_⟩
  have ht : ∀ (i : Nat) (x : V) (H' : Hp), (rf L)[i]? = some x → Same H H' → ∀ R : Bool → Hp → Prop, (∀ H3, Same H' H3 → R (keepT H (lateB f) x) H3) →
      tTest (tOp (rI0 fun i j => V.bl (decide (j < i))) (tDGet (tVar 1) (tOp (rIxT K) (tVar 2) (tC (.int 1)))) (tOp (rI0 fun i j => V.int (i + j)) (tDGet (tVar 1) (tOp (rIxT K) (tVar 2) (tC (.int 0)))) (tOp (rIxT K) (tVar 2) (tC (.int 2))))) [some (.ref r), some (.ref d), some x] H' R := by
    intro i x H' hx e R hR
    obtain ⟨⟨p, t⟩, hq, rfl⟩ := rf_at hx
    have hp : H' p = some (tieO t) := e _ _ (hL.at_ hq)
    have en := hN t (List.mem_of_getElem? (at_tv hq))
    have hd' := e _ _ hd
    rw [keepT_at (show H p = some (tieO t) from hL.at_ hq)] at hR
    refine ⟨_, rfl, _, rfl, p, _, _, _, rfl, rfl, sq_t hp, rfl, d, _, rfl, dS_has hd' en.2, _, rfl, _, rfl, p, _, _, _, rfl, rfl, sq_t hp, rfl, d, _, rfl, dS_has hd' en.1, _, rfl, p, _, _, _, rfl, rfl, sq_t hp, rfl, _, _, rfl, rfl, _, _, rfl, rfl, _, rfl, ?_⟩
    exact hR H' (Same.refl _)
  have fin : ∀ D H', Same H H' → H' D = some (.lst ((rf L).filter (keepT H (lateB f)))) → Q (.bl (decide (V.int ((((rf L).filter (keepT H (lateB f))).length : Nat) : Int) = V.int 0))) H' := by
    intro D H' e _
    have z := q H' e
    have el : ((rf L).filter (keepT H (lateB f))).length = ((tv L).filter (lateB f)).length := by rw [rf_filter hL, rf_len, ← tv_len, tv_filter]
    rw [el]
    have eb : fitsB (tv L) f = decide (V.int ((((tv L).filter (lateB f)).length : Nat) : Int) = V.int 0) := by
      unfold fitsB
      by_cases z0 : ((tv L).filter (lateB f)).length = 0
      · rw [decide_eq_true z0, decide_eq_true (by rw [z0]; rfl)]
      · rw [decide_eq_false z0, decide_eq_false fun y => z0 (by have := V.int.inj y; omega)]
    rw [← eb]
    exact z
  rcases hR with hR | hR
  · refine .inl ⟨_, rfl, r, rfl, ⟨_, sq_l hR⟩, fun D hD => ?_⟩
    exact lc_keep (walk_list (xs := rf L)) rfl (keepT H (lateB f)) hD (fun H' e => sq_l (e _ _ hR)) (by rw [rf_len]; omega) (fun _ => rfl) (fun _ => rfl) ht fun H' e h => ⟨D, _, rfl, .inl (sq_l h), rfl, fin D H' e h⟩
  · refine .inr ⟨_, rfl, r, rfl, ⟨_, sq_t hR⟩, fun D hD => ?_⟩
    exact lc_keep (walk_tup (xs := rf L)) rfl (keepT H (lateB f)) hD (fun H' e => sq_t (e _ _ hR)) (by rw [rf_len]; omega) (fun _ => rfl) (fun _ => rfl) ht fun H' e h => ⟨D, _, rfl, .inl (sq_l h), rfl, fin D H' e h⟩
/-! ### _law_p2_are_ties -/
def spAre : Sp := fun vs H Q _ => ∃ p M, vs = [.ref p] ∧ H p = some (.tup (rf M)) ∧ TiesIn H M ∧ M.length ≤ 1000 ∧ ∀ H', Same H H' → Q (.bl true) H'
theorem ok_law_p2_are_ties (T : Tp K mg) : FnOk P w K mg base CX0 2 T.a__law_p2_are_ties T.d__law_p2_are_ties ["_law_thing"] spAre := by
  refine T.F__law_p2_are_ties.ok sc_law_p2_are_ties (fun vs H Q E h => ?_) (fun cdv A outer s H vs Q E hr h => ?_)
  · obtain ⟨p, M, rfl, _⟩ := h; rfl
  obtain ⟨p, M, rfl, hp, hM, few, q⟩ := h
  refine ⟨_, PSs.nox (pss_cons (ps_if (PW.pt (pw_or (pt_not (pt_val (pe_callB call_isi (by rfl) T.m_isinstance (by decide +kernel) (pa_cons (pv 0) (pa_cons (pe_bltn (v := .ty "tuple") (by rfl) T.m_tuple (by decide +kernel) rfl) pa_nil))))) (pw_or1 (pt_cmpR op_gt (pe_callB call_len_seq (by rfl) T.m_len PySem.boot_len (pa_cons (pe_lc (own := [("_law_row", 1)]) (te := (tVar 1)) (tt := (tNot (tB (tCB (rIsi K) (tCons (tVar 1) (tCons (tC (.ty "tuple")) tNil)))))) rfl sc_law_p2_are_ties.nd (pi_tup (pv 0)) (blkOk_by (own := [("_law_row", 1)]) (N := N_law_p2_are_ties) (sc := defScope s_law_p2_are_ties) (by decide +kernel)) (fun _ _ _ _ _ => (pg_name (i := 1) sc_law_p2_are_ties.nd rfl (Or.inl rfl))) (fun _ _ _ _ _ => (pts_one (pt_not (pt_val (pe_callB call_isi (by rfl) T.m_isinstance (by decide +kernel) (pa_cons (pv 1) (pa_cons (pe_bltn (v := .ty "tuple") (by rfl) T.m_tuple (by decide +kernel) rfl) pa_nil))))))) (fun _ _ _ _ _ => (pv 1))) pa_nil)) pe_int (nomark _))))) (pss_one (ps_ret pe_bl)) pss_nil)
  (pss_cons (ps_if (pt_cmpR op_gt (pe_callB call_len_seq (by rfl) T.m_len PySem.boot_len (pa_cons (pe_lc (own := [("_law_row", 1)]) (te := (tVar 1)) (tt := (tTest (tOp _ (tCB (Evl.rLenS K) (tCons (tVar 1) tNil)) (tC (.int 3))))) rfl sc_law_p2_are_ties.nd (pi_tup (pv 0)) (blkOk_by (own := [("_law_row", 1)]) (N := N_law_p2_are_ties) (sc := defScope s_law_p2_are_ties) (by decide +kernel)) (fun _ _ _ _ _ => (pg_name (i := 1) sc_law_p2_are_ties.nd rfl (Or.inl rfl))) (fun _ _ _ _ _ => (pts_one (pt_cmpR op_ne (pe_callB call_len_seq (by rfl) T.m_len PySem.boot_len (pa_cons (pv 1) pa_nil)) pe_int (nomark _)))) (fun _ _ _ _ _ => (pv 1))) pa_nil)) pe_int (nomark _)) (pss_one (ps_ret pe_bl)) pss_nil)
  (pss_cons (ps_setLc (i := 2) (own := [("_law_row", 1)]) (te := (tVar 1)) (tt := (tAnd (tB (tCB (rIsi K) (tCons (tOp (rIxT K) (tVar 1) (tC (.int 0))) (tCons (tC (.ty "str")) tNil)))) (tAnd (tB (tCB (rIsi K) (tCons (tOp (rIxT K) (tVar 1) (tC (.int 1))) (tCons (tC (.ty "str")) tNil)))) (tB (tCall _ [] E0 (tCons (tOp (rIxT K) (tVar 1) (tC (.int 2))) tNil)))))) rfl sc_law_p2_are_ties.nd rfl rfl (sw_true rfl rfl rfl (by decide +kernel)) (pi_tup (pv 0)) (blkOk_by (own := [("_law_row", 1)]) (N := N_law_p2_are_ties) (sc := defScope s_law_p2_are_ties) (by decide +kernel)) (fun _ _ _ _ _ => (pg_name (i := 1) sc_law_p2_are_ties.nd rfl (Or.inl rfl))) (fun _ _ _ _ _ => (pts_one (PW.pt (pw_and (pt_val (pe_callB call_isi (by rfl) T.m_isinstance (by decide +kernel) (pa_cons (pe_ix ix_tup (pv 1) pe_int (fun _ _ => rfl)) (pa_cons (pe_bltn (v := .ty "str") (by rfl) T.m_str (by decide +kernel) rfl) pa_nil)))) (pw_and (pt_val (pe_callB call_isi (by rfl) T.m_isinstance (by decide +kernel) (pa_cons (pe_ix ix_tup (pv 1) pe_int (fun _ _ => rfl)) (pa_cons (pe_bltn (v := .ty "str") (by rfl) T.m_str (by decide +kernel) rfl) pa_nil)))) (pw_and1 (pt_val (pe_call (ok_law_is_int T) (hr.mono (by decide)) (by rfl) T.g__law_is_int T.F__law_is_int.kp (b__law_is_int T) .nil pass0 (pa_cons (pe_ix ix_tup (pv 1) pe_int (fun _ _ => rfl)) pa_nil))))))))) (fun _ _ _ _ _ => (pv 1)))
  (pss_one (ps_ret (pe_cmpR op_eq (pe_callB call_len_seq (by rfl) T.m_len PySem.boot_len (pa_cons (pv 2) pa_nil)) (pe_callB call_len_seq (by rfl) T.m_len PySem.boot_len (pa_cons (pv 0) pa_nil)) (nomark _))))))), ?_⟩
  have few' : (rf M).length < 100000 := by rw [rf_len]; omega
  refine ⟨_, rfl, _, _, _, _, true, rfl, .ty _, .base (.tup hp), kit_ty (by decide +kernel), true, rfl, iteF ?_⟩
  refine ⟨_, rfl, p, rfl, ⟨_, sq_t hp⟩, fun D1 hD1 => ?_⟩
  refine lc_keep (walk_tup (xs := rf M)) rfl (fun _ => false) hD1 (fun H' e => sq_t (e _ _ hp)) few' (fun _ => rfl) (fun _ => rfl) ?_ ?_
  · intro i x H' hx e R hR
    obtain ⟨⟨pt, t⟩, hq, rfl⟩ := rf_at hx
    have hpt : H' pt = some (tieO t) := e _ _ (hM.at_ hq)
    exact ⟨_, rfl, _, _, _, _, true, rfl, .ty _, .base (.tup hpt), kit_ty (by decide +kernel), true, rfl, hR H' (Same.refl _)⟩
  intro H1 e1 h1
  rw [filt_no] at h1
  refine ⟨D1, _, rfl, .inl (sq_l h1), _, _, rfl, rfl, false, rfl, iteF ?_⟩
  have hp1 := e1 _ _ hp
  refine ⟨_, rfl, p, rfl, ⟨_, sq_t hp1⟩, fun D2 hD2 => ?_⟩
  refine lc_keep (walk_tup (xs := rf M)) rfl (fun _ => false) hD2 (fun H' e => sq_t (e _ _ hp1)) few' (fun _ => rfl) (fun _ => rfl) ?_ ?_
  · intro i x H' hx e R hR
    obtain ⟨⟨pt, t⟩, hq, rfl⟩ := rf_at hx
    have hpt : H' pt = some (tieO t) := e _ _ (e1 _ _ (hM.at_ hq))
    exact ⟨_, rfl, pt, _, rfl, .inr (sq_t hpt), rfl, _, rfl, hR H' (Same.refl _)⟩
  intro H2 e2 h2
  rw [filt_no] at h2
  refine ⟨D2, _, rfl, .inl (sq_l h2), _, _, rfl, rfl, false, rfl, iteF ?_⟩
  have hp2 := e2 _ _ hp1
  refine ⟨_, rfl, p, rfl, ⟨_, sq_t hp2⟩, fun D3 hD3 => ?_⟩
  refine lc_keep (walk_tup (xs := rf M)) rfl (fun _ => true) hD3 (fun H' e => sq_t (e _ _ hp2)) few' (fun _ => rfl) (fun _ => rfl) ?_ ?_
  · intro i x H' hx e R hR
    obtain ⟨⟨pt, t⟩, hq, rfl⟩ := rf_at hx
    have hpt : H' pt = some (tieO t) := e _ _ (e2 _ _ (e1 _ _ (hM.at_ hq)))
    refine ⟨_, rfl, pt, _, _, _, rfl, rfl, sq_t hpt, rfl, _, _, _, _, true, rfl, .ty _, .base (.str _), kit_ty (by decide +kernel), true, rfl, ?_⟩
    refine ⟨_, rfl, pt, _, _, _, rfl, rfl, sq_t hpt, rfl, _, _, _, _, true, rfl, .ty _, .base (.str _), kit_ty (by decide +kernel), true, rfl, ?_⟩
    exact ⟨_, rfl, pt, _, _, _, rfl, rfl, sq_t hpt, rfl, _, rfl, true, rfl, hR H' (Same.refl _)⟩
  intro H3 e3 h3
  rw [filt_yes] at h3
  refine ⟨_, rfl, D3, _, rfl, .inl (sq_l h3), _, rfl, p, _, rfl, .inr (sq_t (e3 _ _ hp2)), rfl, ?_⟩
  rw [decide_eq_true rfl]
  exact q _ ((e1.trans e2).trans e3)
/-! ### _law_ring -/
def spRingB : Sp := fun vs H Q _ => ∃ r p L l, vs = [.ref r, .ref p] ∧ H r = some (.lst (rf L)) ∧ TiesIn H L ∧ RingAt H p l ∧ RingOk (tv L) l ∧ L.length ≤ 1000 ∧ ∀ H', Same H H' → Q (.bl true) H'
theorem sqf {K : PySem.W.Frag} {H : Hp} {p : Addr} {o : Obj} {xs : List V} (h : H p = some (.frz o (.tup xs))) : SqT K H p xs := .inl (.inr ⟨o, h⟩)
theorem nI_at {l : List Nat} {i : Nat} {x : V} (h : (nI l)[i]? = some x) : ∃ k, l[i]? = some k ∧ x = .int ((k : Nat) : Int) := by
  unfold nI at h
  rw [List.getElem?_map] at h
  cases e : l[i]? with
  | none => rw [e] at h; cases h
  | some k => rw [e] at h; exact ⟨k, rfl, (Option.some.inj h).symm⟩
theorem at_nI {l : List Nat} {i k : Nat} (h : l[i]? = some k) : (nI l)[i]? = some (.int ((k : Nat) : Int)) := by
  unfold nI
  rw [List.getElem?_map, h]
  rfl
theorem count_int {l : List Nat} (nd : l.Nodup) {k : Nat} (m : k ∈ l) : (l.map fun (x : Nat) => ((x : Nat) : Int)).count ((k : Nat) : Int) = 1 := by
  have nd2 : (l.map fun (x : Nat) => ((x : Nat) : Int)).Nodup := by
    refine List.pairwise_map.mpr (List.Pairwise.imp (fun {a b} h e => h ?_) nd)
    exact Int.ofNat.inj e
  exact List.Nodup.count nd2 |>.trans (if_pos (List.mem_map.mpr ⟨k, m, rfl⟩))
theorem ok_law_ring (T : Tp K mg) : FnOk P w K mg base CX0 2 T.a__law_ring T.d__law_ring ["_law_ties", "_law_ring_here"] spRingB := by
  refine T.F__law_ring.ok sc_law_ring (fun vs H Q E h => ?_) (fun cdv A outer s H vs Q E hr h => ?_)
  · obtain ⟨r, p, L, l, rfl, _⟩ := h; rfl
  obtain ⟨r, p, L, l, rfl, hR, hL, ⟨ob, oc, od, hp⟩, R0, few, q⟩ := h
  refine ⟨_, PSs.nox (pss_cons (ps_if (PW.pt (pw_or (pt_not (pt_val (pe_callB call_isi (by rfl) T.m_isinstance (by decide +kernel) (pa_cons (pv 1) (pa_cons (pe_bltn (v := .ty "tuple") (by rfl) T.m_tuple (by decide +kernel) rfl) pa_nil))))) (pw_or1 (pt_cmpR op_lt (pe_callB call_len_seq (by rfl) T.m_len PySem.boot_len (pa_cons (pv 1) pa_nil)) pe_int (nomark _))))) (pss_one (ps_ret pe_bl)) pss_nil)
  (pss_cons (ps_if (pt_cmpR op_gt (pe_callB call_len_seq (by rfl) T.m_len PySem.boot_len (pa_cons (pe_lc (own := [("_law_k", 2)]) (te := (tVar 2)) (tt := (tOr (tNot (tB (tCall _ [] E0 (tCons (tVar 2) tNil)))) (tNot (tTest (tChain _ _ (tC (.int 0)) (tVar 2) (tCB (Evl.rLenS K) (tCons (tVar 0) tNil))))))) rfl sc_law_ring.nd (pi_tup (pv 1)) (blkOk_by (own := [("_law_k", 2)]) (N := N_law_ring) (sc := defScope s_law_ring) (by decide +kernel)) (fun _ _ _ _ _ => (pg_name (i := 2) sc_law_ring.nd rfl (Or.inl rfl))) (fun _ _ _ _ _ => (pts_one (PW.pt (pw_or (pt_not (pt_val (pe_call (ok_law_is_int T) (hr.mono (by decide)) (by rfl) T.g__law_is_int T.F__law_is_int.kp (b__law_is_int T) .nil pass0 (pa_cons (pv 2) pa_nil)))) (pw_or1 (pt_not (pt_chain op_le op_lt pe_int (pv 2) (pe_callB call_len_seq (by rfl) T.m_len PySem.boot_len (pa_cons (pv 0) pa_nil))))))))) (fun _ _ _ _ _ => (pv 2))) pa_nil)) pe_int (nomark _)) (pss_one (ps_ret pe_bl)) pss_nil)
  (pss_cons (ps_if (PW.pt (pw_or (pt_cmpR op_ne (pe_callB call_len_seq (by rfl) T.m_len PySem.boot_len (pa_cons (pe_lc (own := [("_law_k", 2)]) (te := (tVar 2)) (tt := (tTest (tOp _ (tVar 2) (tOp (rIxT K) (tVar 1) (tC (.int 0)))))) rfl sc_law_ring.nd (pi_tup (pv 1)) (blkOk_by (own := [("_law_k", 2)]) (N := N_law_ring) (sc := defScope s_law_ring) (by decide +kernel)) (fun _ _ _ _ _ => (pg_name (i := 2) sc_law_ring.nd rfl (Or.inl rfl))) (fun _ _ _ _ _ => (pts_one (pt_cmpR op_le (pv 2) (pe_ix ix_tup (pv 1) pe_int (fun _ _ => rfl)) (nomark _)))) (fun _ _ _ _ _ => (pv 2))) pa_nil)) pe_int (nomark _)) (pw_or1 (pt_cmpR op_gt (pe_callB call_len_seq (by rfl) T.m_len PySem.boot_len (pa_cons (pe_lc (own := [("_law_k", 2)]) (te := (tVar 2)) (tt := (tTest (tOp _ (Wr.tTCnt K (tVar 1) (tCons (tVar 2) tNil)) (tC (.int 1))))) rfl sc_law_ring.nd (pi_tup (pv 1)) (blkOk_by (own := [("_law_k", 2)]) (N := N_law_ring) (sc := defScope s_law_ring) (by decide +kernel)) (fun _ _ _ _ _ => (pg_name (i := 2) sc_law_ring.nd rfl (Or.inl rfl))) (fun _ _ _ _ _ => (pts_one (pt_cmpR op_gt (Wr.pe_tcount (pv 1) (pa_cons (pv 2) pa_nil)) pe_int (nomark _)))) (fun _ _ _ _ _ => (pv 2))) pa_nil)) pe_int (nomark _))))) (pss_one (ps_ret pe_bl)) pss_nil)
  (pss_cons (ps_set (i := 3) sc_law_ring.nd rfl (Or.inl rfl) pe_int)
  (pss_cons (ps_for PassesOwn.never rfl (pi_range1 (by rfl) T.m_range (pa_cons (pe_callB call_len_seq (by rfl) T.m_len PySem.boot_len (pa_cons (pv 1) pa_nil)) pa_nil)) (pg_name (i := 2) sc_law_ring.nd rfl (Or.inl rfl)) (pss_cons (ps_set (i := 4) sc_law_ring.nd rfl (Or.inl rfl) (pe_ix ix_list (pv 0) (pe_ix ix_tup (pv 1) (pv 2) (fun _ _ => rfl)) (fun _ _ => rfl)))
  (pss_cons (ps_if (pt_cmpR op_ne (pe_ix ix_tup (pv 4) pe_int (fun _ _ => rfl)) (pe_ix ix_tup (pe_ix ix_list (pv 0) (pe_ix ix_tup (pv 1) (pe_op op_mod (pe_callTy call_int1 (by rfl) T.m_int boot_int (pa_cons (pe_op op_add (pv 2) pe_int) pa_nil)) (pe_callB call_len_seq (by rfl) T.m_len PySem.boot_len (pa_cons (pv 1) pa_nil))) (fun _ _ => rfl)) (fun _ _ => rfl)) pe_int (fun _ _ => rfl)) (nomark _)) (pss_one (ps_ret pe_bl)) pss_nil)
  (pss_one (ps_set (i := 3) sc_law_ring.nd rfl (Or.inl rfl) (pe_op op_add (pv 3) (pe_ix ix_tup (pv 4) pe_int (fun _ _ => rfl))))))))
  (pss_one (ps_ret (pe_cmpR op_lt (pv 3) pe_int (nomark _))))))))), ?_⟩
  have two := R0.ring.two
  have nd := R0.ring.nd
  have lt := R0.ring.lt
  have hl : l.length ≤ 1000 := by
    have z := nodup_le _ (List.range (tv L).length) nd fun k m => List.mem_range.mpr (lt k m)
    rw [List.length_range, tv_len] at z
    omega
  have few' : (nI l).length < 100000 := by rw [nI_len]; omega
  refine ⟨_, rfl, _, _, _, _, true, rfl, .ty _, .fTuple hp, kit_ty (by decide +kernel), true, rfl, iteF ?_⟩
  refine ⟨_, rfl, p, _, rfl, .inr (sqf hp), _, _, rfl, rfl, false, ?_, iteF ?_⟩
  · show V.bl (decide ((((nI l).length : Nat) : Int) < 2)) = _
    rw [decide_eq_false (by rw [nI_len]; omega)]
  refine ⟨_, rfl, p, rfl, ⟨_, sqf hp⟩, fun D1 hD1 => ?_⟩
  refine lc_keep (walk_tup (xs := nI l)) rfl (fun _ => false) hD1 (fun H' e => sqf (e _ _ hp)) few' (fun _ => rfl) (fun _ => rfl) ?_ ?_
  · intro i x H' hx e R hR
    obtain ⟨k, hk, rfl⟩ := nI_at hx
    have kl := lt k (List.mem_of_getElem? hk)
    rw [tv_len] at kl
    refine ⟨_, rfl, _, rfl, true, rfl, iteF ?_⟩
    refine ⟨_, rfl, _, _, rfl, rfl, true, ?_, iteT ⟨_, rfl, r, _, rfl, .inl (sq_l (e _ _ ‹H r = some (.lst (rf L))›)), _, _, rfl, rfl, true, ?_, hR H' (Same.refl _)⟩⟩
    · exact congrArg V.bl (decide_eq_true (show (0 : Int) ≤ ((k : Nat) : Int) by omega))
    · exact congrArg V.bl (decide_eq_true (show ((k : Nat) : Int) < (((rf L).length : Nat) : Int) by rw [rf_len]; omega))
  intro H1 e1 h1
  rw [filt_no] at h1
  refine ⟨D1, _, rfl, .inl (sq_l h1), _, _, rfl, rfl, false, rfl, iteF ?_⟩
  have hp1 := e1 _ _ hp
  obtain ⟨k0, rest, hl0⟩ : ∃ k0 rest, l = k0 :: rest := by
    cases l with
    | nil => exact absurd two (by decide)
    | cons a b => exact ⟨a, b, rfl⟩
  have k0a : l[0]? = some k0 := by rw [hl0]; rfl
  -- just one is not above the first
  refine ⟨_, rfl, p, rfl, ⟨_, sqf hp1⟩, fun D2 hD2 => ?_⟩
  let keep : V → Bool := fun v => match v with | .int i => decide (i ≤ ((k0 : Nat) : Int)) | _ => false
  refine lc_keep (walk_tup (xs := nI l)) rfl keep hD2 (fun H' e => sqf (e _ _ hp1)) few' (fun _ => rfl) (fun _ => rfl) ?_ ?_
  · intro i x H' hx e R hR
    obtain ⟨k, hk, rfl⟩ := nI_at hx
    exact ⟨_, rfl, _, rfl, p, _, _, _, rfl, rfl, sqf (e _ _ hp1), atI_nat (j := 0) (at_nI k0a), _, _, rfl, rfl, _, rfl, hR H' (Same.refl _)⟩
  intro H2 e2 h2
  have one : (nI l).filter keep = [V.int ((k0 : Nat) : Int)] := by
    have none_ : (nI rest).filter keep = [] := by
      rw [List.filter_eq_nil_iff]
      intro x mx
      obtain ⟨k, mk, rfl⟩ := List.mem_map.mp mx
      intro z
      have z : ((k : Nat) : Int) ≤ ((k0 : Nat) : Int) := of_decide_eq_true z
      have ml : k ∈ l := by rw [hl0]; exact List.mem_cons_of_mem _ mk
      have le := R0.least k0 k0a k ml
      have ne : k ≠ k0 := fun e => by
        rw [hl0] at nd
        exact (List.nodup_cons.mp nd).1 (e ▸ mk)
      omega
    rw [hl0]
    show (V.int ((k0 : Nat) : Int) :: nI rest).filter keep = _
    rw [List.filter_cons_of_pos (show keep (V.int ((k0 : Nat) : Int)) = true from decide_eq_true (Int.le_refl _)), none_]
  rw [one] at h2
  refine ⟨D2, _, rfl, .inl (sq_l h2), rfl, false, ?_, iteF ?_⟩
  · rfl
  have hp2 := e2 _ _ hp1
  refine ⟨_, rfl, p, rfl, ⟨_, sqf hp2⟩, fun D3 hD3 => ?_⟩
  refine lc_keep (walk_tup (xs := nI l)) rfl (fun _ => false) hD3 (fun H' e => sqf (e _ _ hp2)) few' (fun _ => rfl) (fun _ => rfl) ?_ ?_
  · intro i x H' hx e R hR
    obtain ⟨k, hk, rfl⟩ := nI_at hx
    have c1 := count_int nd (List.mem_of_getElem? hk)
    refine ⟨_, rfl, ⟨p, ob, _, rfl, e _ _ hp2, oc, od⟩, _, rfl, p, l.map (fun (x : Nat) => ((x : Nat) : Int)), _, rfl, rfl, ?_, _, _, rfl, rfl, false, ?_, hR H' (Same.refl _)⟩
    · rw [show (l.map fun (x : Nat) => ((x : Nat) : Int)).map V.int = nI l from List.map_map]
      exact sqf (e _ _ hp2)
    · rw [c1]; rfl
  intro H3 e3 h3
  rw [filt_no] at h3
  refine ⟨D3, _, rfl, .inl (sq_l h3), _, _, rfl, rfl, false, rfl, iteF ?_⟩
  have hp3 := e3 _ _ hp2
  have e123 := (e1.trans e2).trans e3
  refine ⟨_, rfl, p, _, rfl, .inr (sqf hp3), (((nI l).length : Nat) : Int), rfl, by rw [nI_len]; omega, by rw [nI_len]; omega, ?_⟩
  rw [show (((nI l).length : Nat) : Int).toNat = l.length by rw [Int.toNat_natCast, nI_len]]
  refine for_it (walk_range (lo := 0) (n := l.length)) (fun i σ H4 => H4 = H3 ∧ ∃ y2 y4, σ = [some (.ref r), some (.ref p), y2, some (.int (sumN (tv L) (l.take i))), y4]) ⟨rfl, none, none, rfl⟩ (fun _ _ _ _ _ => trivial) ?_ ?_
  · rintro i v _ H4 H4' hi ⟨rfl, y2, y4, rfl⟩ ⟨rfl, rfl⟩
    obtain ⟨e, he⟩ : ∃ e, l[i]? = some e := ⟨l[i], List.getElem?_eq_getElem hi⟩
    have hm : (i + 1) % l.length < l.length := Nat.mod_lt _ (by omega)
    obtain ⟨f, hf⟩ : ∃ f, l[(i + 1) % l.length]? = some f := ⟨l[(i + 1) % l.length], List.getElem?_eq_getElem hm⟩
    obtain ⟨a, b, c, n, m, g1, g2⟩ := R0.ring.adj i e f he hf
    have tieAt : ∀ {e : Nat} {t : Tie}, (tv L)[e]? = some t → ∃ pt, L[e]? = some (pt, t) := fun {e t} z => by
      unfold tv at z
      rw [List.getElem?_map] at z
      cases z2 : L[e]? with
      | none => rw [z2] at z; cases z
      | some q' => rw [z2] at z; exact ⟨q'.1, by rw [← Option.some.inj z]⟩
    obtain ⟨p1, g3⟩ := tieAt g1
    obtain ⟨p2, g4⟩ := tieAt g2
    have h4 : H4' p1 = some (tieO (a, b, n)) := e123 _ _ (hL.at_ g3)
    have h5 : H4' p2 = some (tieO (b, c, m)) := e123 _ _ (hL.at_ g4)
    have hR4 := e123 _ _ hR
    have i0 : ((0 : Int) + ((i : Nat) : Int)) = ((i : Nat) : Int) := Int.zero_add _
    refine ⟨_, rfl, _, rfl, _, rfl, p, _, _, _, rfl, rfl, sqf hp3, by rw [i0]; exact atI_nat (at_nI he), r, _, _, _, rfl, rfl, sq_l hR4, atI_nat (at_rf g3), ?_⟩
    have im : ((0 : Int) + ((i : Nat) : Int) + 1) % (((nI l).length : Nat) : Int) = ((((i + 1) % l.length : Nat)) : Int) := by
      rw [Int.zero_add, nI_len]
      exact (Int.natCast_emod (i + 1) l.length).symm
    refine ⟨_, rfl, p1, _, _, _, rfl, rfl, sq_t h4, rfl, _, rfl, _, rfl, _, rfl, _, _, rfl, rfl, .inl ⟨_, rfl, _, rfl, p, _, rfl, .inr (sqf hp3), _, _, rfl, rfl, ?_, p, _, _, _, rfl, rfl, sqf hp3, ?_, r, _, _, _, rfl, rfl, sq_l hR4, atI_nat (at_rf g4), p2, _, _, _, rfl, rfl, sq_t h5, rfl, rfl, false, ?_, iteF ?_⟩⟩
    · rw [nI_len]; omega
    · rw [im]; exact atI_nat (at_nI hf)
    · show V.bl (!decide (V.str b = V.str b)) = _
      rw [decide_eq_true rfl]
      rfl
    refine ⟨_, rfl, _, rfl, p1, _, _, _, rfl, rfl, sq_t h4, rfl, _, _, rfl, rfl, rfl, some (.int ((0 : Int) + ((i : Nat) : Int))), some (.ref p1), ?_⟩
    rw [take_one he, sumN_app]
    have one : sumN (tv L) [e] = n := by
      show nOf (tv L) e + 0 = n
      unfold nOf
      rw [g1]
      exact Int.add_zero n
    rw [one]
    rfl
  · rintro _ H4 ⟨rfl, y2, y4, rfl⟩
    rw [List.take_length]
    refine ⟨_, rfl, _, _, rfl, rfl, ?_⟩
    have z := q _ e123
    rw [← decide_eq_true R0.ring.sum] at z
    exact z
end
end Sw
namespace Sw
open PySem PySem.Spec PyProof.Rows L2 Wr WM
section
variable {P : Program} {w : World} {K : PySem.W.Frag} {mg : Str → Option Value} {base : Heap}
/-! ### _law_p2_read_days -/
def spRead : Sp := fun vs H Q _ => ∃ d l ns g, vs = [.ref d, .ref l] ∧ DaysAt H d ns g ∧ H l = some (.lst (ns.map V.str)) ∧ (emp :: ns).Nodup ∧ ns.length ≤ 100 ∧
  ∀ H' p f, Same H H' → H' p = some (dS (emp :: ns) f) → f emp = 0 → (∀ x ∈ ns, f x = g x) → Q (.ref p) H'
theorem ok_law_p2_read_days (T : Tp K mg) : FnOk P w K mg base CX0 2 T.a__law_p2_read_days T.d__law_p2_read_days ["_law_thing", "_law_lots"] spRead := by
  refine T.F__law_p2_read_days.ok sc_law_p2_read_days (fun vs H Q E h => ?_) (fun cdv A outer s H vs Q E hr h => ?_)
  · obtain ⟨d, l, ns, g, rfl, _⟩ := h; rfl
  obtain ⟨d, l, ns, g, rfl, ⟨PL, hd, hPL, hP⟩, hl, nd, few, q⟩ := h
  refine ⟨_, PSs.nox (pss_cons (ps_if (PW.pt (pw_or (pt_not (pt_val (pe_callB call_isi (by rfl) T.m_isinstance (by decide +kernel) (pa_cons (pv 0) (pa_cons (pe_bltn (v := .ty "tuple") (by rfl) T.m_tuple (by decide +kernel) rfl) pa_nil))))) (pw_or1 (pt_cmpR op_ne (pe_callB call_len_seq (by rfl) T.m_len PySem.boot_len (pa_cons (pv 0) pa_nil)) (pe_callB call_len_seq (by rfl) T.m_len PySem.boot_len (pa_cons (pv 1) pa_nil)) (nomark _))))) (pss_one (ps_ret pe_non)) pss_nil)
  (pss_cons (ps_set (i := 2) sc_law_p2_read_days.nd rfl (Or.inl rfl) pe_dnewK)
  (pss_cons (ps_dput (hu_of hr) (pv 2) pe_str pe_int rfl)
  (pss_cons (ps_for PassesOwn.never rfl (Wr.pi_zip2 (by rfl) T.m_zip (pa_cons (pv 0) (pa_cons (pv 1) pa_nil))) (pg_tup rfl (pgs_cons (pg_name (i := 3) sc_law_p2_read_days.nd rfl (Or.inl rfl)) (pgs_cons (pg_name (i := 4) sc_law_p2_read_days.nd rfl (Or.inl rfl)) pgs_nil))) (pss_cons (ps_if (PW.pt (pw_or (pt_not (pt_val (pe_callB call_isi (by rfl) T.m_isinstance (by decide +kernel) (pa_cons (pv 3) (pa_cons (pe_bltn (v := .ty "tuple") (by rfl) T.m_tuple (by decide +kernel) rfl) pa_nil))))) (pw_or (pt_cmpR op_ne (pe_callB call_len_seq (by rfl) T.m_len PySem.boot_len (pa_cons (pv 3) pa_nil)) pe_int (nomark _)) (pw_or (pt_not (pt_val (pe_callB call_isi (by rfl) T.m_isinstance (by decide +kernel) (pa_cons (pe_ix ix_tup (pv 3) pe_int (fun _ _ => rfl)) (pa_cons (pe_bltn (v := .ty "str") (by rfl) T.m_str (by decide +kernel) rfl) pa_nil))))) (pw_or1 (pt_cmpR op_ne (pe_ix ix_tup (pv 3) pe_int (fun _ _ => rfl)) (pv 4) (nomark _))))))) (pss_one (ps_ret pe_non)) pss_nil)
  (pss_cons (ps_if (pt_not (pt_val (pe_call (ok_law_is_int T) (hr.mono (by decide)) (by rfl) T.g__law_is_int T.F__law_is_int.kp (b__law_is_int T) .nil pass0 (pa_cons (pe_ix ix_tup (pv 3) pe_int (fun _ _ => rfl)) pa_nil)))) (pss_one (ps_ret pe_non)) pss_nil)
  (pss_one (ps_dput (hu_of hr) (pv 2) (pv 4) (pe_ix ix_tup (pv 3) pe_int (fun _ _ => rfl)) rfl)))))
  (pss_one (ps_ret (pv 2))))))), ?_⟩
  have hlen : PL.length = ns.length := by rw [← hPL, List.length_map]
  refine ⟨_, rfl, _, _, _, _, true, rfl, .ty _, .base (.tup hd), kit_ty (by decide +kernel), true, rfl, iteF ?_⟩
  refine ⟨_, rfl, d, _, rfl, .inr (sq_t hd), _, rfl, l, _, rfl, .inl (sq_l hl), rfl, false, ?_, iteF ?_⟩
  · show V.bl (!decide (V.int (((PL.map fun q => V.ref q.1).length : Nat) : Int) = V.int (((ns.map V.str).length : Nat) : Int))) = _
    rw [List.length_map, List.length_map, hlen, decide_eq_true rfl]
    rfl
  intro p hp
  have e0 := same_new (o := .dK []) hp
  have u0 : (upd H p (.dK [])) p = some (dS [] fun _ => 0) := upd_same
  have put := dS_put u0 emp 0 (by show 0 < 100000; decide)
  rw [upd_upd] at put
  refine ⟨_, rfl, p, _, rfl, put, ?_⟩
  have e1 : Same H (upd H p (dS (addN [] emp) (setF (fun _ => 0) emp 0))) := same_new hp
  have u1 : (upd H p (dS (addN [] emp) (setF (fun _ => 0) emp 0))) p = some (dS [emp] fun _ => 0) := by
    rw [upd_same]
    refine congrArg (fun f => some (dS [emp] f)) (funext fun x => ?_)
    unfold setF
    split <;> rfl
  generalize upd H p (dS (addN [] emp) (setF (fun _ => 0) emp 0)) = H1 at e1 u1 ⊢
  let SS (y3 y4 : Option V) : L2.St := [some (.ref d), some (.ref l), some (.ref p), y3, y4]
  refine ⟨_, rfl, _, rfl, d, l, _, _, rfl, sq_t (e1 _ _ hd), sq_l (e1 _ _ hl), ?_⟩
  refine for_it (walk_zip2 (xs := PL.map fun q => V.ref q.1) (ys := ns.map V.str) (by rw [List.length_map, List.length_map, hlen])) (fun i σ H2 => ∃ f y3 y4, σ = SS y3 y4 ∧ Same H H2 ∧ H2 p = some (dS (emp :: ns.take i) f) ∧ f emp = 0 ∧ ∀ x ∈ ns.take i, f x = g x)
    ⟨fun _ => 0, none, none, rfl, e1, u1, rfl, fun _ m => absurd m List.not_mem_nil⟩ (fun _ _ _ _ ⟨_, _, _, _, z, _⟩ => ⟨sq_t (z _ _ hd), sq_l (z _ _ hl)⟩) ?_ ?_
  · rintro i v _ H2 H2' hi ⟨f, y3, y4, rfl, k1, k2, k3, k4⟩ ⟨tp, x1, x2, rfl, ntp, rfl, hx1, hx2⟩
    dsimp only at hx1 hx2
    obtain ⟨⟨pp, z⟩, hq, rfl⟩ : ∃ q, PL[i]? = some q ∧ x1 = .ref q.1 := by
      rw [List.getElem?_map] at hx1
      cases e : PL[i]? with
      | none => rw [e] at hx1; cases hx1
      | some q => rw [e] at hx1; exact ⟨q, rfl, (Option.some.inj hx1).symm⟩
    obtain ⟨z', hz', rfl⟩ := names_at hx2
    have ez : z' = z := by
      rw [← hPL, List.getElem?_map, hq] at hz'
      exact (Option.some.inj hz').symm
    subst ez
    have zm := List.mem_of_getElem? hz'
    have n1 := same_new (o := .tup [.ref pp, .str z']) ntp
    have htp : (upd H2 tp (.tup [.ref pp, .str z'])) tp = some (.tup [.ref pp, .str z']) := upd_same
    have k5 := k1.trans n1
    have k6 := n1 _ _ k2
    have hpp : (upd H2 tp (.tup [.ref pp, .str z'])) pp = some (.tup [.str z', .int (g z')]) := k5 _ _ (hP _ (List.mem_of_getElem? hq))
    generalize upd H2 tp (.tup [.ref pp, .str z']) = H3 at htp k5 k6 hpp ⊢
    refine ⟨tp, _, rfl, sq_t htp, rfl, _, _, rfl, _, _, rfl, rfl, ?_⟩
    refine ⟨_, rfl, _, _, _, _, true, rfl, .ty _, .base (.tup hpp), kit_ty (by decide +kernel), true, rfl, iteF ?_⟩
    refine ⟨_, rfl, pp, _, rfl, .inr (sq_t hpp), rfl, false, rfl, iteF ?_⟩
    refine ⟨_, rfl, pp, _, _, _, rfl, rfl, sq_t hpp, rfl, _, _, _, _, true, rfl, .ty _, .base (.str _), kit_ty (by decide +kernel), true, rfl, iteF ?_⟩
    refine ⟨_, rfl, pp, _, _, _, rfl, rfl, sq_t hpp, rfl, _, rfl, rfl, false, ?_, iteF ?_⟩
    · show V.bl (!decide (V.str z' = V.str z')) = _
      rw [decide_eq_true rfl]
      rfl
    refine ⟨_, rfl, pp, _, _, _, rfl, rfl, sq_t hpp, rfl, _, rfl, true, rfl, iteF ?_⟩
    have put := dS_put k6 z' (g z') (by rw [List.length_cons, List.length_take]; omega)
    have tk := take_one hz'
    have zn : z' ∉ emp :: ns.take i := by
      have nd2 : (emp :: ns.take (i + 1)).Nodup := List.Nodup.sublist (List.Sublist.cons_cons emp (List.take_sublist (i + 1) ns)) nd
      rw [tk] at nd2
      intro m
      rcases List.mem_cons.mp m with rfl | m
      · exact (List.nodup_cons.mp nd2).1 (List.mem_append_right _ (List.mem_singleton.mpr rfl))
      · exact (List.nodup_append.mp (List.nodup_cons.mp nd2).2).2.2 z' m z' (List.mem_singleton.mpr rfl) rfl
    refine ⟨_, rfl, pp, _, _, _, rfl, rfl, sq_t hpp, rfl, _, rfl, _, rfl, p, _, rfl, put, setF f z' (g z'), _, _, rfl, same_mut k5 hp, ?_, ?_, fun x m => ?_⟩
    · rw [upd_same, tk]
      unfold addN
      rw [if_neg zn]
      rfl
    · unfold setF
      rw [if_neg fun (e : emp = z') => zn (by rw [← e]; exact List.mem_cons_self)]
      exact k3
    · unfold setF
      by_cases e : x = z'
      · rw [if_pos e, e]
      · rw [if_neg e]
        rw [tk] at m
        rcases List.mem_append.mp m with m | m
        · exact k4 x m
        · exact absurd (List.mem_singleton.mp m) e
  · rintro _ H2 ⟨f, y3, y4, rfl, k1, k2, k3, k4⟩
    rw [List.length_map, hlen, List.take_length] at k2 k4
    exact ⟨_, rfl, q H2 p f k1 k2 k3 k4⟩
/-! ### _law_p2_rows -/
def spRows : Sp := fun vs H Q _ => ∃ d n names F, vs = [.ref d, .ref n] ∧ DT names H d F ∧ H n = some (.lst (names.map V.str)) ∧ names.length ≤ 21 ∧
  ∀ H' p M, Same H H' → H' p = some (.lst (rf M)) → TiesIn H' M → tv M = rowsOf F names names → Q (.ref p) H'
theorem ok_law_p2_rows (T : Tp K mg) : FnOk P w K mg base CX0 1 T.a__law_p2_rows T.d__law_p2_rows ["_law_found", "_law_names_here"] spRows := by
  refine T.F__law_p2_rows.ok sc_law_p2_rows (fun vs H Q E h => ?_) (fun cdv A outer s H vs Q E hr h => ?_)
  · obtain ⟨d, n, names, F, rfl, _⟩ := h; rfl
  obtain ⟨d, n, names, F, rfl, hd, hn, few, q⟩ := h
  refine ⟨_, PSs.nox (pss_cons (ps_set (i := 2) sc_law_p2_rows.nd rfl (Or.inl rfl) (pe_lst pa_nil))
  (pss_cons (ps_for PassesOwn.never rfl (pi_list (pv 1)) (pg_name (i := 3) sc_law_p2_rows.nd rfl (Or.inl rfl)) (pss_one (ps_for PassesOwn.never rfl (pi_list (pv 1)) (pg_name (i := 4) sc_law_p2_rows.nd rfl (Or.inl rfl)) (pss_one (ps_if (PW.pt (pw_and (pt_cmpR op_ne (pv 3) (pv 4) (nomark _)) (pw_and1 (pt_cmp (pc_din (hu_of hr) (pe_tup (pa_cons (pv 3) (pa_cons (pv 4) pa_nil))) (pv 0)))))) (pss_one (ps_expr (pe_bm PySem.F.plainAttrs_list PySem.F.slot_list_append PySem.F.type_list_append mt_append (pv 2) (pa_cons (pe_tup (pa_cons (pv 3) (pa_cons (pv 4) (pa_cons (pe_dget (hu_of hr) (pv 0) (pe_tup (pa_cons (pv 3) (pa_cons (pv 4) pa_nil))) (fun _ _ => rfl)) pa_nil)))) pa_nil)))) pss_nil)))))
  (pss_one (ps_ret (pv 2))))), ?_⟩
  refine ⟨sz0, fun p1 hp1 => ?_⟩
  let SS (y3 y4 : Option V) : L2.St := [some (.ref d), some (.ref n), some (.ref p1), y3, y4]
  let M (G : List Tie) (H' : Hp) : Prop := Same H H' ∧ ∃ R : TL, H' p1 = some (.lst (rf R)) ∧ TiesIn H' R ∧ tv R = G
  have mm : ∀ {G A B}, M G A → Same A B → M G B := fun {G A B} ⟨z1, R, z2, z3, z4⟩ e => ⟨z1.trans e, R, e _ _ z2, z3.mono e, z4⟩
  have M0 : M [] (upd H p1 (.lst [])) := ⟨same_new hp1, [], upd_same, TiesIn.nil, rfl⟩
  refine ⟨_, rfl, n, rfl, ⟨_, sq_l (M0.1 _ _ hn)⟩, ?_⟩
  refine for_it (walk_list (xs := names.map V.str)) (fun k σ H8 => ∃ y3 y4, σ = SS y3 y4 ∧ M (rowsOf F names (names.take k)) H8) ⟨none, none, rfl, M0⟩ (fun _ _ _ _ ⟨_, _, _, z⟩ => sq_l (z.1 _ _ hn)) ?_ ?_
  · rintro k v _ H8 H8' hk ⟨y3, y4, rfl, m1⟩ ⟨rfl, hv⟩
    obtain ⟨fst, hfst, rfl⟩ := names_at hv
    rw [take_one hfst, rowsOf_app, rowsOf_one]
    have hG1 : (rowsOf F names (names.take k)).length ≤ 21 * 21 := by
      have z := rowsOf_len F names (names.take k)
      rw [List.length_take] at z
      exact Nat.le_trans z (Nat.mul_le_mul (by omega) few)
    generalize rowsOf F names (names.take k) = G at m1 hG1 ⊢
    refine ⟨_, rfl, n, rfl, ⟨_, sq_l (m1.1 _ _ hn)⟩, ?_⟩
    refine for_it (walk_list (xs := names.map V.str)) (fun k σ H8 => ∃ y4, σ = SS (some (.str fst)) y4 ∧ M (G ++ rowOf F fst (names.take k)) H8) ⟨y4, rfl, by rw [show rowOf F fst (names.take 0) = [] from rfl, List.append_nil]; exact m1⟩ (fun _ _ _ _ ⟨_, _, z⟩ => sq_l (z.1 _ _ hn)) ?_ ?_
    · rintro k v _ H8 H8' hk ⟨y4, rfl, m1⟩ ⟨rfl, hv⟩
      obtain ⟨snd, hsnd, rfl⟩ := names_at hv
      rw [take_one hsnd, rowOf_app, rowOf_one, ← List.append_assoc]
      have hG2 : (G ++ rowOf F fst (names.take k)).length ≤ 21 * 21 + 21 := by
        have z := rowOf_len F fst (names.take k)
        rw [List.length_take] at z
        rw [List.length_append]
        omega
      generalize G ++ rowOf F fst (names.take k) = G2 at m1 hG2 ⊢
      refine ⟨_, rfl, _, rfl, rfl, _, rfl, ite2 (fun ne => ?_) (fun ne => ?_)⟩
      · have ne : fst ≠ snd := fun e => by
          rw [decide_eq_true (by rw [e])] at ne
          exact absurd ne (by decide)
        rw [if_neg ne]
        refine ⟨_, rfl, _, rfl, sz2, fun t1 ht1 => ?_⟩
        have m2 := mm m1 (same_new (o := .tup [.str fst, .str snd]) ht1)
        have u1 : (upd H8' t1 (.tup [.str fst, .str snd])) t1 = some (.tup [.str fst, .str snd]) := upd_same
        generalize upd H8' t1 (.tup [.str fst, .str snd]) = H9 at m2 u1 ⊢
        refine ⟨_, rfl, d, _, rfl, (hd.mono m2.1).get u1, _, rfl, ?_⟩
        cases h1 : F fst snd with
        | none => exact ⟨_, rfl, by rw [List.append_nil]; exact m2⟩
        | some x =>
          have ⟨_, R, r1, r2, r3⟩ := m2
          refine ⟨_, rfl, .inl ⟨rfl, _, sq_l r1⟩, _, rfl, _, rfl, _, rfl, _, rfl, _, rfl, sz2, fun t2 ht2 => ?_⟩
          have m3 := mm m2 (same_new (o := .tup [.str fst, .str snd]) ht2)
          have u2 : (upd H9 t2 (.tup [.str fst, .str snd])) t2 = some (.tup [.str fst, .str snd]) := upd_same
          generalize upd H9 t2 (.tup [.str fst, .str snd]) = H10 at m3 u2 ⊢
          refine ⟨d, _, rfl, (hd.mono m3.1).has u2 h1, sz3, fun t3 ht3 => ?_⟩
          have ⟨s1, R, r1, r2, r3⟩ := mm m3 (same_new (o := .tup [.str fst, .str snd, .int x]) ht3)
          have u3 : (upd H10 t3 (.tup [.str fst, .str snd, .int x])) t3 = some (tieO (fst, snd, x)) := upd_same
          generalize upd H10 t3 (.tup [.str fst, .str snd, .int x]) = H11 at s1 r1 r2 u3 ⊢
          refine ⟨p1, _, _, rfl, rfl, r1, small' ?_, _, rfl, same_mut s1 hp1, R ++ [(t3, (fst, snd, x))], ?_, ?_, ?_⟩
          · rw [rf_len, ← tv_len, r3]; omega
          · rw [upd_same, rf_app]; rfl
          · refine TiesIn.app (fun q m => ?_) (TiesIn.one ?_)
            · rw [upd_ne (ne_of (r2 q m) r1 (fun z => HO.noConfusion z))]; exact r2 q m
            · rw [upd_ne (ne_of u3 r1 (fun z => HO.noConfusion z))]; exact u3
          · rw [tv_app, r3]; rfl
      · have e : fst = snd := by
          by_cases e : fst = snd
          · exact e
          · rw [decide_eq_false fun z => e (V.str.inj z)] at ne
            exact absurd rfl ne
        rw [if_pos e, List.append_nil]
        exact ⟨_, rfl, m1⟩
    · rintro _ H8 ⟨y4, rfl, m1⟩
      rw [List.length_map, List.take_length] at m1
      exact ⟨_, _, rfl, m1⟩
  · rintro _ H8 ⟨y3, y4, rfl, m1, R, m2, m3, m4⟩
    rw [List.length_map, List.take_length] at m4
    exact ⟨_, rfl, q H8 p1 R m1 m2 m3 m4⟩
end
end Sw
namespace Sw
open PySem PySem.Spec PyProof.Rows L2 Wr WM
section
variable {P : Program} {w : World} {K : PySem.W.Frag} {mg : Str → Option Value} {base : Heap}
/-! ### _law_p2_reach -/
def spReach : Sp := fun vs H Q _ => ∃ r L s0, vs = [.ref r, .str s0] ∧ H r = some (.lst (rf L)) ∧ TiesIn H L ∧ (∃ h, Feas (tv L) h) ∧ L.length ≤ 100 ∧
  ∀ H' d F, Same H H' → RowAt (s0 :: (tv L).map fun u => u.2.1) H' d F → IsD (tv L) s0 F → Q (.ref d) H'
theorem rounds_one {T : List Tie} {F : Row Str} {k : Nat} : rounds T (k + 1) F = (T.foldl rl) (rounds T k F) := rounds_succ T k F
theorem ok_law_p2_reach (T : Tp K mg) : FnOk P w K mg base CX0 1 T.a__law_p2_reach T.d__law_p2_reach ["_law_ties", "_law_start"] spReach := by
  refine T.F__law_p2_reach.ok sc_law_p2_reach (fun vs H Q E h => ?_) (fun cdv A outer s H vs Q E hr h => ?_)
  · obtain ⟨r, L, s0, rfl, _⟩ := h; rfl
  obtain ⟨r, L, s0, rfl, hR, hL, ⟨h0, fe⟩, few, q⟩ := h
  refine ⟨_, PSs.nox (pss_cons (ps_set (i := 2) sc_law_p2_reach.nd rfl (Or.inl rfl) pe_dnewK)
  (pss_cons (ps_dput (hu_of hr) (pv 2) (pv 1) pe_int rfl)
  (Evl.pss_cut (ps_for PassesOwn.never rfl (pi_range1 (by rfl) T.m_range (pa_cons (pe_callB call_len_seq (by rfl) T.m_len PySem.boot_len (pa_cons (pv 0) pa_nil)) pa_nil)) (pg_name (i := 3) sc_law_p2_reach.nd rfl (Or.inl rfl)) (pss_cons (ps_set (i := 4) sc_law_p2_reach.nd rfl (Or.inl rfl) pe_int)
  (pss_cons (ps_for PassesOwn.never rfl (pi_list (pv 0)) (pg_name (i := 5) sc_law_p2_reach.nd rfl (Or.inl rfl)) (pss_one (ps_if (pt_cmp (pc_din (hu_of hr) (pe_ix ix_tup (pv 5) pe_int (fun _ _ => rfl)) (pv 2))) (pss_cons (ps_set (i := 6) sc_law_p2_reach.nd rfl (Or.inl rfl) (pe_op op_add (pe_dget (hu_of hr) (pv 2) (pe_ix ix_tup (pv 5) pe_int (fun _ _ => rfl)) (fun _ _ => rfl)) (pe_ix ix_tup (pv 5) pe_int (fun _ _ => rfl))))
  (pss_one (ps_if (PW.pt (pw_or (pt_cmp (pc_dnotin (hu_of hr) (pe_ix ix_tup (pv 5) pe_int (fun _ _ => rfl)) (pv 2))) (pw_or1 (pt_cmpR op_lt (pv 6) (pe_dget (hu_of hr) (pv 2) (pe_ix ix_tup (pv 5) pe_int (fun _ _ => rfl)) (fun _ _ => rfl)) (nomark _))))) (pss_cons (ps_dput (hu_of hr) (pv 2) (pe_ix ix_tup (pv 5) pe_int (fun _ _ => rfl)) (pv 6) rfl)
  (pss_one (ps_set (i := 4) sc_law_p2_reach.nd rfl (Or.inl rfl) (pe_op op_add (pv 4) pe_int)))) pss_nil))) pss_nil)))
  (pss_one (ps_if (pt_cmpR op_eq (pv 4) pe_int (nomark _)) (pss_one ps_break) pss_nil)))))
  (pss_one (ps_ret (pv 2)))))), ?_⟩
  let NL : List Str := s0 :: (tv L).map fun u => u.2.1
  have hNL : NL.length ≤ 1000 := by
    show ((tv L).map fun u => u.2.1).length + 1 ≤ 1000
    rw [List.length_map, tv_len]
    omega
  have hin : ∀ u ∈ tv L, u.2.1 ∈ NL := fun u m => List.mem_cons_of_mem _ (List.mem_map.mpr ⟨u, m, rfl⟩)
  intro d hd
  have e0 := same_new (o := .dK []) hd
  refine ⟨_, rfl, _, rfl, (RowAt.nil (NL := NL) upd_same).put hNL hd e0 List.mem_cons_self fun H1 e1 row => ?_⟩
  rw [src_set] at row
  let SS (y3 y4 y5 y6 : Option V) : L2.St := [some (.ref r), some (.str s0), some (.ref d), y3, y4, y5, y6]
  have isd : IsD (tv L) s0 (rounds (tv L) (tv L).length (src s0)) := rounds_isD (L := (tv L).map fun u => u.2.1) fe (fun t m => List.mem_map.mpr ⟨t, m, rfl⟩) (by rw [List.length_map]; exact Nat.le_refl _)
  have stt : ∀ k, Snd (tv L) s0 (rounds (tv L) k (src s0)) ∧ Ex1 (tv L) s0 (rounds (tv L) k (src s0)) s0 := fun k => ⟨rounds_snd k _ src_snd, rounds_src_at fe k _ src_snd (src_ex fe)⟩
  have zero : ∀ F, Snd (tv L) s0 F → Ex1 (tv L) s0 F s0 → Fix (tv L) F → IsD (tv L) s0 F := fun F S X fx => by
    obtain ⟨d0, x1, x2⟩ := X
    refine isD_of S fx x1 ?_
    have := x2.2 0 (.stay _)
    omega
  refine ⟨fun σ H2 => ∃ F y3 y4 y5 y6, σ = SS y3 y4 y5 y6 ∧ Same H H2 ∧ RowAt NL H2 d F ∧ IsD (tv L) s0 F, ?_, ?_⟩
  · refine ⟨_, rfl, r, _, rfl, .inl (sq_l (e1 _ _ hR)), (((rf L).length : Nat) : Int), rfl, by rw [rf_len]; omega, by rw [rf_len]; omega, ?_⟩
    rw [show (((rf L).length : Nat) : Int).toNat = (tv L).length by rw [Int.toNat_natCast, rf_len, tv_len]]
    refine for_it (walk_range (lo := 0) (n := (tv L).length)) (fun k σ H2 => ∃ y3 y4 y5 y6, σ = SS y3 y4 y5 y6 ∧ Same H H2 ∧ RowAt NL H2 d (rounds (tv L) k (src s0))) ⟨none, none, none, none, rfl, e1, row⟩ (fun _ _ _ _ _ => trivial) ?_ ?_
    · rintro k v _ H2 H2' hk ⟨y3, y4, y5, y6, rfl, k1, k2⟩ ⟨rfl, rfl⟩
      obtain ⟨S, X⟩ := stt k
      rw [rounds_one]
      generalize rounds (tv L) k (src s0) = F at k2 S X ⊢
      refine ⟨_, rfl, r, rfl, ⟨_, sq_l (k1 _ _ hR)⟩, ?_⟩
      refine for_it (walk_list (xs := rf L)) (fun i σ H3 => ∃ (g : Nat) (y3 y5 y6 : Option V), σ = SS y3 (some (.int ((g : Nat) : Int))) y5 y6 ∧ Same H H3 ∧ RowAt NL H3 d (((tv L).take i).foldl rl F) ∧
        (g = 0 → ((tv L).take i).foldl rl F = F ∧ ∀ u ∈ (tv L).take i, ∀ y, F u.1 = some y → ¬ wins (F u.2.1) (y + u.2.2))) ⟨0, some (.int ((0 : Int) + ((k : Nat) : Int))), y5, y6, rfl, k1, k2, fun _ => ⟨rfl, fun _ m => absurd m List.not_mem_nil⟩⟩ (fun _ _ _ _ ⟨_, _, _, _, _, z, _⟩ => sq_l (z _ _ hR)) ?_ ?_
      · rintro i v _ H3 H3' hi ⟨g, y3, y5, y6, rfl, k1, k2, k3⟩ ⟨rfl, hv⟩
        obtain ⟨⟨pu, u⟩, hq, rfl⟩ := rf_at hv
        have hpu : H3' pu = some (tieO u) := k1 _ _ (hL.at_ hq)
        have hqu : (tv L)[i]? = some u := at_tv hq
        have mu := List.mem_of_getElem? hqu
        rw [fold_one hqu]
        have tk := take_one hqu
        generalize hFi : ((tv L).take i).foldl rl F = Fi at k2 k3 ⊢
        have stay : ∀ y3 y5 y6, (∀ y, Fi u.1 = some y → ¬ wins (Fi u.2.1) (y + u.2.2)) → ∃ (g' : Nat) (y3' y5' y6' : Option V), SS y3 (some (.int ((g : Nat) : Int))) y5 y6 = SS y3' (some (.int ((g' : Nat) : Int))) y5' y6' ∧ Same H H3' ∧ RowAt NL H3' d (rl Fi u) ∧
            (g' = 0 → rl Fi u = F ∧ ∀ u ∈ (tv L).take (i + 1), ∀ y, F u.1 = some y → ¬ wins (F u.2.1) (y + u.2.2)) := fun y3 y5 y6 lose => by
          have e : rl Fi u = Fi := by
            cases h1 : Fi u.1 with
            | none => exact rl_none h1
            | some y => exact rl_lose h1 (lose y h1)
          refine ⟨g, y3, y5, y6, rfl, k1, k2.eq e.symm, fun z => ?_⟩
          obtain ⟨a1, a2⟩ := k3 z
          refine ⟨e.trans a1, fun u' m => ?_⟩
          rw [tk] at m
          rcases List.mem_append.mp m with m | m
          · exact a2 u' m
          · rw [List.mem_singleton.mp m, ← a1]
            exact lose
        have go : ∀ y3 y5 y6 y H4, Fi u.1 = some y → wins (Fi u.2.1) (y + u.2.2) → Same H H4 → RowAt NL H4 d (setR Fi u.2.1 (y + u.2.2)) → ∃ (g' : Nat) (y3' y5' y6' : Option V), SS y3 (some (.int (((g : Nat) : Int) + 1))) y5 y6 = SS y3' (some (.int ((g' : Nat) : Int))) y5' y6' ∧ Same H H4 ∧ RowAt NL H4 d (rl Fi u) ∧
            (g' = 0 → rl Fi u = F ∧ ∀ u ∈ (tv L).take (i + 1), ∀ y, F u.1 = some y → ¬ wins (F u.2.1) (y + u.2.2)) := fun y3 y5 y6 y H4 h1 hw b1 b2 =>
          ⟨g + 1, y3, y5, y6, rfl, b1, b2.eq (rl_set h1 hw).symm, fun z => absurd z (Nat.succ_ne_zero g)⟩
        refine ⟨_, rfl, pu, _, _, _, rfl, rfl, sq_t hpu, rfl, _, rfl, d, _, rfl, k2.get u.1, _, rfl, ?_⟩
        cases h1 : Fi u.1 with
        | none => exact stay _ _ _ fun y e => absurd (h1.symm.trans e) (fun z => nomatch z)
        | some y =>
          refine ⟨_, rfl, _, rfl, pu, _, _, _, rfl, rfl, sq_t hpu, rfl, d, _, rfl, k2.has h1, _, rfl, pu, _, _, _, rfl, rfl, sq_t hpu, rfl, _, _, rfl, rfl, ?_⟩
          refine ⟨_, rfl, pu, _, _, _, rfl, rfl, sq_t hpu, rfl, _, rfl, d, _, rfl, k2.get u.2.1, _, rfl, ?_⟩
          cases h2 : Fi u.2.1 with
          | none =>
            have hw : wins (Fi u.2.1) (y + u.2.2) := by rw [h2]; trivial
            refine ⟨_, rfl, _, rfl, _, rfl, pu, _, _, _, rfl, rfl, sq_t hpu, rfl, k2.put hNL hd k1 (hin u mu) fun H4 b1 b2 => ⟨_, rfl, _, _, rfl, rfl, go _ _ _ y H4 h1 hw b1 b2⟩⟩
          | some z =>
            refine ⟨_, rfl, _, rfl, _, rfl, pu, _, _, _, rfl, rfl, sq_t hpu, rfl, d, _, rfl, k2.has h2, _, _, rfl, rfl, _, rfl, ite2 (fun lt => ?_) (fun lt => ?_)⟩
            · have lt : y + u.2.2 < z := of_decide_eq_true lt
              have hw : wins (Fi u.2.1) (y + u.2.2) := by rw [h2]; exact lt
              refine ⟨_, rfl, _, rfl, _, rfl, pu, _, _, _, rfl, rfl, sq_t hpu, rfl, k2.put hNL hd k1 (hin u mu) fun H4 b1 b2 => ⟨_, rfl, _, _, rfl, rfl, go _ _ _ y H4 h1 hw b1 b2⟩⟩
            · refine stay _ _ _ fun y' e' hw => ?_
              rw [h1] at e'
              rw [← Option.some.inj e', h2] at hw
              have hw : y + u.2.2 < z := hw
              exact lt (decide_eq_true hw)
      · rintro _ H3 ⟨g, y3, y5, y6, rfl, k1, k2, k3⟩
        rw [show (tv L).take (rf L).length = tv L by rw [rf_len, ← tv_len, List.take_length]] at k2 k3
        refine ⟨_, rfl, rfl, _, rfl, ite2 (fun z => ?_) (fun z => ?_)⟩
        · have g0 : g = 0 := by
            have := V.int.inj (of_decide_eq_true z)
            omega
          obtain ⟨a1, a2⟩ := k3 g0
          rw [a1] at k2
          exact ⟨F, y3, _, y5, y6, rfl, k1, k2, zero F S X (fix_lose a2)⟩
        · exact ⟨_, _, _, _, rfl, k1, k2⟩
    · rintro _ H2 ⟨y3, y4, y5, y6, rfl, k1, k2⟩
      exact ⟨_, _, _, _, _, rfl, k1, k2, isd⟩
  · rintro _ H2 ⟨F, y3, y4, y5, y6, rfl, k1, k2, k3⟩
    exact ⟨_, rfl, q H2 d F k1 k2 k3⟩
end
end Sw
namespace Sw
open PySem PySem.Spec PyProof.Rows L2 Wr WM
def upRow (F : Tab Str) (s : Str) (R : Row Str) : Tab Str := fun a => if a = s then R else F a
theorem upRow_at (F : Tab Str) (s : Str) (R : Row Str) (b : Str) : upRow F s R s b = R b := by
  unfold upRow
  rw [if_pos rfl]
theorem upRow_set (F : Tab Str) (s : Str) (R : Row Str) (b : Str) (v : Int) : setT (upRow F s R) s b v = upRow F s (setR R b v) := by
  funext x y
  by_cases e : x = s
  · subst e
    rw [upRow_at]
    unfold setR
    by_cases e2 : y = b
    · rw [if_pos e2, e2, setT_at]
    · rw [if_neg e2, setT_ne fun z => e2 z.2, upRow_at]
  · rw [setT_ne fun z => e z.1]
    unfold upRow
    rw [if_neg e, if_neg e]
theorem upRow_src (F : Tab Str) (s : Str) (h : F s = fun _ => none) : setT F s s 0 = upRow F s (src s) := by
  funext x y
  by_cases e : x = s
  · subst e
    rw [upRow_at]
    unfold src
    by_cases e2 : y = x
    · rw [if_pos e2, e2, setT_at]
    · rw [if_neg e2, setT_ne fun z => e2 z.2, h]
  · rw [setT_ne fun z => e z.1]
    unfold upRow
    rw [if_neg e]
section
variable {P : Program} {w : World} {K : PySem.W.Frag} {mg : Str → Option Value} {base : Heap}
def spPLeast : Sp := fun vs H Q _ => ∃ r n L names, vs = [.ref r, .ref n] ∧ H r = some (.lst (rf L)) ∧ TiesIn H L ∧ H n = some (.lst (names.map V.str)) ∧ names.Nodup ∧ (∀ t ∈ tv L, t.1 ∈ names ∧ t.2.1 ∈ names) ∧ names.length ≤ 21 ∧ (∃ h, Feas (tv L) h) ∧
  ∀ H' d, Same H H' → DT names H' d (fw (tv L) names) → Q (.ref d) H'
theorem ok_law_p2_least (T : Tp K mg) : FnOk P w K mg base CX0 1 T.a__law_p2_least T.d__law_p2_least ["_law_ties", "_law_names_here"] spPLeast := by
  refine T.F__law_p2_least.ok sc_law_p2_least (fun vs H Q E h => ?_) (fun cdv A outer s H vs Q E hr h => ?_)
  · obtain ⟨r, n, L, names, rfl, _⟩ := h; rfl
  obtain ⟨r, n, L, names, rfl, hR, hL, hn, nd, hT, few, ⟨h0, fe⟩, q⟩ := h
  refine ⟨_, PSs.nox (pss_cons (ps_set (i := 2) sc_law_p2_least.nd rfl (Or.inl rfl) pe_dnewT)
  (pss_cons (ps_for PassesOwn.never rfl (pi_list (pv 1)) (pg_name (i := 3) sc_law_p2_least.nd rfl (Or.inl rfl)) (pss_cons (ps_dput (hu_of hr) (pv 2) (pe_tup (pa_cons (pv 3) (pa_cons (pv 3) pa_nil))) pe_int rfl)
  (pss_one (ps_for PassesOwn.never rfl (pi_range1 (by rfl) T.m_range (pa_cons (pe_callB call_len_seq (by rfl) T.m_len PySem.boot_len (pa_cons (pv 1) pa_nil)) pa_nil)) (pg_name (i := 4) sc_law_p2_least.nd rfl (Or.inl rfl)) (pss_one (ps_for PassesOwn.never rfl (pi_list (pv 0)) (pg_name (i := 5) sc_law_p2_least.nd rfl (Or.inl rfl)) (pss_one (ps_if (pt_cmp (pc_din (hu_of hr) (pe_tup (pa_cons (pv 3) (pa_cons (pe_ix ix_tup (pv 5) pe_int (fun _ _ => rfl)) pa_nil))) (pv 2))) (pss_cons (ps_set (i := 6) sc_law_p2_least.nd rfl (Or.inl rfl) (pe_op op_add (pe_dget (hu_of hr) (pv 2) (pe_tup (pa_cons (pv 3) (pa_cons (pe_ix ix_tup (pv 5) pe_int (fun _ _ => rfl)) pa_nil))) (fun _ _ => rfl)) (pe_ix ix_tup (pv 5) pe_int (fun _ _ => rfl))))
  (pss_one (ps_if (PW.pt (pw_or (pt_cmp (pc_dnotin (hu_of hr) (pe_tup (pa_cons (pv 3) (pa_cons (pe_ix ix_tup (pv 5) pe_int (fun _ _ => rfl)) pa_nil))) (pv 2))) (pw_or1 (pt_cmpR op_lt (pv 6) (pe_dget (hu_of hr) (pv 2) (pe_tup (pa_cons (pv 3) (pa_cons (pe_ix ix_tup (pv 5) pe_int (fun _ _ => rfl)) pa_nil))) (fun _ _ => rfl)) (nomark _))))) (pss_one (ps_dput (hu_of hr) (pv 2) (pe_tup (pa_cons (pv 3) (pa_cons (pe_ix ix_tup (pv 5) pe_int (fun _ _ => rfl)) pa_nil))) (pv 6) rfl)) pss_nil))) pss_nil))))))))
  (pss_one (ps_ret (pv 2))))), ?_⟩
  have few2 : names.length ≤ 100 := by omega
  intro d hd
  have e0 := same_new (o := .dT []) hd
  let SS (y3 y4 y5 y6 : Option V) : L2.St := [some (.ref r), some (.ref n), some (.ref d), y3, y4, y5, y6]
  let M (F : Tab Str) (H' : Hp) : Prop := Same H H' ∧ DT names H' d F
  let F (k : Nat) : Tab Str := fun a b => if a ∈ names.take k then rounds (tv L) names.length (src a) b else none
  have F0 : (fun _ _ => none) = F 0 := by
    funext a b
    show none = if a ∈ names.take 0 then _ else none
    rw [if_neg (by simp)]
  refine ⟨_, rfl, n, rfl, ⟨_, sq_l (e0 _ _ hn)⟩, ?_⟩
  refine for_it (walk_list (xs := names.map V.str)) (fun k σ H1 => ∃ y3 y4 y5 y6, σ = SS y3 y4 y5 y6 ∧ M (F k) H1) ⟨none, none, none, none, rfl, e0, (DT.nil upd_same).eq F0⟩ (fun _ _ _ _ ⟨_, _, _, _, _, p, _⟩ => sq_l (p _ _ hn)) ?_ ?_
  · rintro k v _ H1 H1' hk ⟨y3, y4, y5, y6, rfl, k1, k2⟩ ⟨rfl, hv⟩
    obtain ⟨nm, hnm, rfl⟩ := names_at hv
    have mn := List.mem_of_getElem? hnm
    have tk := take_one hnm
    have nn : nm ∉ names.take k := by
      have z := List.Nodup.sublist (List.take_sublist (k + 1) names) nd
      rw [tk] at z
      exact fun m => (List.nodup_append.mp z).2.2 nm m nm (List.mem_singleton.mpr rfl) rfl
    have hrow : F k nm = fun _ => none := by
      funext b
      show (if nm ∈ names.take k then _ else none) = none
      rw [if_neg nn]
    refine ⟨_, rfl, _, rfl, _, rfl, sz2, fun t0 ht0 => put_go few2 mn mn hd k1 k2 ht0 fun H2 m1 m2 => ?_⟩
    rw [upRow_src _ _ hrow] at m2
    clear k2 k1
    refine ⟨_, rfl, n, _, rfl, .inl (sq_l (m1 _ _ hn)), (((names.map V.str).length : Nat) : Int), rfl, by rw [List.length_map]; omega, by rw [List.length_map]; omega, ?_⟩
    rw [show (((names.map V.str).length : Nat) : Int).toNat = names.length by rw [Int.toNat_natCast, List.length_map]]
    refine for_it (walk_range (lo := 0) (n := names.length)) (fun j σ H3 => ∃ y4 y5 y6, σ = SS (some (.str nm)) y4 y5 y6 ∧ M (upRow (F k) nm (rounds (tv L) j (src nm))) H3) ⟨y4, y5, y6, rfl, m1, m2⟩ (fun _ _ _ _ _ => trivial) ?_ ?_
    · rintro j v _ H3 H3' hj ⟨y4, y5, y6, rfl, k1, k2⟩ ⟨rfl, rfl⟩
      rw [rounds_one]
      generalize rounds (tv L) j (src nm) = R0 at k2 ⊢
      refine ⟨_, rfl, r, rfl, ⟨_, sq_l (k1 _ _ hR)⟩, ?_⟩
      refine for_it (walk_list (xs := rf L)) (fun i σ H4 => ∃ y4 y5 y6, σ = SS (some (.str nm)) y4 y5 y6 ∧ M (upRow (F k) nm (((tv L).take i).foldl rl R0)) H4) ⟨_, y5, y6, rfl, k1, k2⟩ (fun _ _ _ _ ⟨_, _, _, _, p, _⟩ => sq_l (p _ _ hR)) ?_ ?_
      · rintro i v _ H4 H4' hi ⟨y4, y5, y6, rfl, k1, k2⟩ ⟨rfl, hv⟩
        obtain ⟨⟨pu, u⟩, hq, rfl⟩ := rf_at hv
        have hpu : H4' pu = some (tieO u) := k1 _ _ (hL.at_ hq)
        have hqu : (tv L)[i]? = some u := at_tv hq
        have en := hT u (List.mem_of_getElem? hqu)
        rw [fold_one hqu]
        generalize ((tv L).take i).foldl rl R0 = R at k2 ⊢
        refine ⟨_, rfl, _, rfl, pu, _, _, _, rfl, rfl, sq_t hpu, rfl, sz2, fun t1 ht1 => ?_⟩
        have k3 := k2.mono (same_new (o := .tup [.str nm, .str u.1]) ht1)
        have k4 := k1.trans (same_new (o := .tup [.str nm, .str u.1]) ht1)
        have u1 : (upd H4' t1 (.tup [.str nm, .str u.1])) t1 = some (.tup [.str nm, .str u.1]) := upd_same
        have hpu := same_new (o := .tup [.str nm, .str u.1]) ht1 _ _ hpu
        generalize upd H4' t1 (.tup [.str nm, .str u.1]) = H5 at k3 k4 u1 hpu ⊢
        refine ⟨_, rfl, d, _, rfl, k3.get u1, _, rfl, ?_⟩
        rw [upRow_at]
        cases h1 : R u.1 with
        | none => exact ⟨_, _, _, rfl, k4, k3.eq (by rw [rl_none h1])⟩
        | some y =>
          refine ⟨_, rfl, _, rfl, _, rfl, pu, _, _, _, rfl, rfl, sq_t hpu, rfl, sz2, fun t2 ht2 => ?_⟩
          have k5 := k3.mono (same_new (o := .tup [.str nm, .str u.1]) ht2)
          have k6 := k4.trans (same_new (o := .tup [.str nm, .str u.1]) ht2)
          have u2 : (upd H5 t2 (.tup [.str nm, .str u.1])) t2 = some (.tup [.str nm, .str u.1]) := upd_same
          have hpu := same_new (o := .tup [.str nm, .str u.1]) ht2 _ _ hpu
          generalize upd H5 t2 (.tup [.str nm, .str u.1]) = H6 at k5 k6 u2 hpu ⊢
          have g1 : upRow (F k) nm R nm u.1 = some y := by rw [upRow_at]; exact h1
          refine ⟨d, _, rfl, k5.has u2 g1, _, rfl, pu, _, _, _, rfl, rfl, sq_t hpu, rfl, _, _, rfl, rfl, ?_⟩
          refine ⟨_, rfl, _, rfl, pu, _, _, _, rfl, rfl, sq_t hpu, rfl, sz2, fun t3 ht3 => ?_⟩
          have k7 := k5.mono (same_new (o := .tup [.str nm, .str u.2.1]) ht3)
          have k8 := k6.trans (same_new (o := .tup [.str nm, .str u.2.1]) ht3)
          have u3 : (upd H6 t3 (.tup [.str nm, .str u.2.1])) t3 = some (.tup [.str nm, .str u.2.1]) := upd_same
          have hpu := same_new (o := .tup [.str nm, .str u.2.1]) ht3 _ _ hpu
          generalize upd H6 t3 (.tup [.str nm, .str u.2.1]) = H7 at k7 k8 u3 hpu ⊢
          refine ⟨_, rfl, d, _, rfl, k7.get u3, _, rfl, ?_⟩
          rw [upRow_at]
          have win : ∀ H' , wins (R u.2.1) (y + u.2.2) → DT names H' d (setT (upRow (F k) nm R) nm u.2.1 (y + u.2.2)) → DT names H' d (upRow (F k) nm (rl R u)) := fun H' z h => by
            rw [upRow_set] at h
            rw [rl_set h1 z]
            exact h
          cases h2 : R u.2.1 with
          | none =>
            refine ⟨_, rfl, _, rfl, _, rfl, _, rfl, pu, _, _, _, rfl, rfl, sq_t hpu, rfl, sz2, fun t4 ht4 => put_go few2 mn en.2 hd k8 k7 ht4 ?_⟩
            exact fun H' a1 a2 => ⟨_, _, _, rfl, a1, win H' (by rw [h2]; trivial) a2⟩
          | some z =>
            refine ⟨_, rfl, _, rfl, _, rfl, _, rfl, pu, _, _, _, rfl, rfl, sq_t hpu, rfl, sz2, fun t4 ht4 => ?_⟩
            have k9 := k7.mono (same_new (o := .tup [.str nm, .str u.2.1]) ht4)
            have k10 := k8.trans (same_new (o := .tup [.str nm, .str u.2.1]) ht4)
            have u4 : (upd H7 t4 (.tup [.str nm, .str u.2.1])) t4 = some (.tup [.str nm, .str u.2.1]) := upd_same
            have hpu := same_new (o := .tup [.str nm, .str u.2.1]) ht4 _ _ hpu
            generalize upd H7 t4 (.tup [.str nm, .str u.2.1]) = H8 at k9 k10 u4 hpu ⊢
            have g2 : upRow (F k) nm R nm u.2.1 = some z := by rw [upRow_at]; exact h2
            refine ⟨d, _, rfl, k9.has u4 g2, _, _, rfl, rfl, _, rfl, ite2 (fun lt => ?_) (fun lt => ?_)⟩
            · have lt : y + u.2.2 < z := of_decide_eq_true lt
              refine ⟨_, rfl, _, rfl, _, rfl, _, rfl, pu, _, _, _, rfl, rfl, sq_t hpu, rfl, sz2, fun t5 ht5 => put_go few2 mn en.2 hd k10 k9 ht5 ?_⟩
              exact fun H' a1 a2 => ⟨_, _, _, rfl, a1, win H' (by rw [h2]; exact lt) a2⟩
            · refine ⟨_, _, _, rfl, k10, k9.eq ?_⟩
              rw [rl_lose h1]
              intro w
              rw [h2] at w
              have w : y + u.2.2 < z := w
              exact lt (decide_eq_true w)
      · rintro _ H4 ⟨y4, y5, y6, rfl, k1, k2⟩
        rw [show (tv L).take (rf L).length = tv L by rw [rf_len, ← tv_len, List.take_length]] at k2
        exact ⟨_, _, _, rfl, k1, k2⟩
    · rintro _ H3 ⟨y4, y5, y6, rfl, k1, k2⟩
      refine ⟨_, _, _, _, rfl, k1, k2.eq ?_⟩
      funext a b
      show _ = if a ∈ names.take (k + 1) then _ else none
      rw [tk]
      unfold upRow
      by_cases e : a = nm
      · rw [if_pos e, if_pos (by rw [e]; exact List.mem_append_right _ (List.mem_singleton.mpr rfl)), e]
      · rw [if_neg e]
        by_cases m : a ∈ names.take k
        · rw [if_pos (List.mem_append_left _ m)]
          exact if_pos m
        · rw [if_neg fun z => (List.mem_append.mp z).elim m fun z => e (List.mem_singleton.mp z)]
          exact if_neg m
  · rintro _ H1 ⟨y3, y4, y5, y6, rfl, k1, k2⟩
    refine ⟨_, rfl, q H1 d k1 (k2.eq ?_)⟩
    rw [List.length_map]
    have hT' : ∀ a b n, (a, b, n) ∈ tv L → a ∈ names ∧ b ∈ names := fun a b n m => hT _ m
    funext a b
    show (if a ∈ names.take names.length then _ else none) = _
    rw [List.take_length]
    by_cases m : a ∈ names
    · rw [if_pos m]
      have i1 := rounds_isD (s := a) (L := names) fe (fun t z => (hT t z).2) (Nat.le_refl names.length)
      have i2 := fw_isD fe hT' m
      exact congrFun (i1.ext i2) b
    · rw [if_neg m]
      cases z : fw (tv L) names a b with
      | none => rfl
      | some v => exact absurd (fw_supp hT' a b v z).1 m
end
end Sw
namespace Sw
open PySem PySem.Spec PyProof.Rows L2 Wr WM
/-! ### days that are pinned -/
def pinT (c : Str → Int) (x : Str) : List Tie := [(emp, x, c x), (x, emp, -(c x))]
def pins (c : Str → Int) (l : List Str) : List Tie := l.flatMap (pinT c)
theorem pins_app (c : Str → Int) (l m : List Str) : pins c (l ++ m) = pins c l ++ pins c m := List.flatMap_append
theorem pins_one (c : Str → Int) (x : Str) : pins c [x] = pinT c x := by
  unfold pins
  simp
theorem pins_len (c : Str → Int) : ∀ l, (pins c l).length = 2 * l.length
  | [] => rfl
  | x :: l => by
    show (pinT c x ++ pins c l).length = _
    rw [List.length_append, pins_len c l, List.length_cons]
    show 2 + _ = _
    omega
theorem mem_pins {c : Str → Int} {l : List Str} {t : Tie} : t ∈ pins c l ↔ ∃ x ∈ l, t = (emp, x, c x) ∨ t = (x, emp, -(c x)) := by
  unfold pins
  rw [List.mem_flatMap]
  constructor
  · rintro ⟨x, m, h⟩
    refine ⟨x, m, ?_⟩
    rcases List.mem_cons.mp h with e | h
    · exact .inl e
    · exact .inr (List.mem_singleton.mp h)
  · rintro ⟨x, m, h⟩
    refine ⟨x, m, ?_⟩
    rcases h with rfl | rfl
    · exact List.mem_cons_self
    · exact List.mem_cons_of_mem _ (List.mem_singleton.mpr rfl)
theorem feas_pins {T : List Tie} {c h : Str → Int} {wl : List Str} : Feas (T ++ pins c wl) h ↔ Feas T h ∧ ∀ x ∈ wl, h x = h emp + c x := by
  constructor
  · intro f
    refine ⟨fun a b n m => f a b n (List.mem_append_left _ m), fun x m => ?_⟩
    have f1 := f "" x (c x) (List.mem_append_right _ (mem_pins.mpr ⟨x, m, .inl rfl⟩))
    have f2 := f x "" (-(c x)) (List.mem_append_right _ (mem_pins.mpr ⟨x, m, .inr rfl⟩))
    have f1 : h x ≤ h emp + c x := f1
    have f2 : h emp ≤ h x + -(c x) := f2
    omega
  · rintro ⟨f, g⟩ a b n m
    rcases List.mem_append.mp m with m | m
    · exact f a b n m
    · obtain ⟨x, mx, e | e⟩ := mem_pins.mp m
      · injection e with e1 e2
        injection e2 with e2 e3
        subst e1 e2 e3
        have := g b mx
        have g1 : h b = h emp + c b := this
        omega
      · injection e with e1 e2
        injection e2 with e2 e3
        subst e1 e2 e3
        have g1 : h a = h emp + c a := g a mx
        omega
theorem mem_rows {F : Tab Str} {names : List Str} {a b : Str} {n : Int} : (a, b, n) ∈ rowsOf F names names ↔ a ∈ names ∧ b ∈ names ∧ a ≠ b ∧ F a b = some n := by
  unfold rowsOf rowOf
  rw [List.mem_flatMap]
  constructor
  · rintro ⟨x, mx, h⟩
    obtain ⟨y, my, e⟩ := List.mem_filterMap.mp h
    by_cases z : x = y
    · rw [if_pos z] at e
      cases e
    · rw [if_neg z] at e
      obtain ⟨v, hv, e2⟩ := Option.map_eq_some_iff.mp e
      injection e2 with e1 e2
      injection e2 with e2 e3
      subst e1 e2 e3
      exact ⟨mx, my, z, hv⟩
  · rintro ⟨ma, mb, ne, e⟩
    refine ⟨a, ma, List.mem_filterMap.mpr ⟨b, mb, ?_⟩⟩
    rw [if_neg ne, e]
    rfl
theorem mem_shadow {T : List Tie} {ns wl : List Str} {a b : Str} {n : Int} : (a, b, n) ∈ shadowOf T ns wl ↔ (a ∈ emp :: ns ∧ b ∈ emp :: ns ∧ a ≠ b ∧ fw T (emp :: ns) a b = some n) ∧ a ∈ emp :: wl ∧ b ∈ emp :: wl := by
  unfold shadowOf
  rw [List.mem_filter, mem_rows]
  dsimp only
  rw [Bool.and_eq_true, decide_eq_true_eq, decide_eq_true_eq]
theorem way_ends {T : List Tie} {a b : Str} {v : Int} (x : Way T a b v) : a = b ∨ (∃ t ∈ T, t.1 = a) ∧ ∃ t ∈ T, t.2.1 = b := by
  induction x with
  | stay => exact .inl rfl
  | more h m ih =>
    refine .inr ⟨?_, _, m, rfl⟩
    rcases ih with rfl | ⟨z, _⟩
    · exact ⟨_, m, rfl⟩
    · exact z
theorem lots_ends {T : List Tie} {ns : List Str} (lots : Lots T ns) : ∀ a b n, (a, b, n) ∈ T → a ∈ emp :: ns ∧ b ∈ emp :: ns := fun a b n m => ends_in lots m
/-- days that the pinned ties keep are kept by the shadow -/
theorem shadow_fits {T : List Tie} {ns wl : List Str} {c h : Str → Int} (lots : Lots T ns) (c0 : c emp = 0) (f : Feas (T ++ pins c wl) h) : Feas (shadowOf T ns wl) c := by
  obtain ⟨f1, f2⟩ := feas_pins.mp f
  have cv : ∀ x ∈ emp :: wl, c x = h x - h emp := fun x m => by
    rcases List.mem_cons.mp m with rfl | m
    · rw [c0]; omega
    · have := f2 x m
      omega
  intro a b n m
  obtain ⟨⟨ma, mb, ne, e⟩, wa, wb⟩ := mem_shadow.mp m
  have l := ((fw_isD f1 (lots_ends lots) ma) b n).mp e
  have := f1.way l.1
  rw [cv a wa, cv b wb]
  omega
/-- days that the shadow keeps go on -/
theorem shadow_goes {T : List Tie} {ns wl : List Str} {c h0 : Str → Int} (lots : Lots T ns) (fe : Feas T h0) (c0 : c emp = 0) (f : Feas (shadowOf T ns wl) c) : ∃ h, Feas (T ++ pins c wl) h := by
  obtain ⟨p, p1, p2⟩ := goes_on (T := T) (h := h0) (c := c) (L := emp :: wl) fe fun a ma b mb d l => by
    rcases way_ends l.1 with rfl | ⟨⟨t, mt, e1⟩, u, mu, e2⟩
    · have := fe.ring l.1
      omega
    · by_cases ne : a = b
      · subst ne
        have := fe.ring l.1
        omega
      · have na : a ∈ emp :: ns := e1 ▸ (ends_in lots mt).1
        have nb : b ∈ emp :: ns := e2 ▸ (ends_in lots mu).2
        have e := ((fw_isD fe (lots_ends lots) na) b d).mpr l
        exact f a b d (mem_shadow.mpr ⟨⟨na, nb, ne, e⟩, ma, mb⟩)
  refine ⟨p, feas_pins.mpr ⟨p1, fun x m => ?_⟩⟩
  rw [p2 x (List.mem_cons_of_mem _ m), p2 emp List.mem_cons_self, c0]
  omega
theorem taken {α : Type} {l : List α} {i : Nat} {x : α} (h : l[i]? = some x) : x ∈ l := List.mem_of_getElem? h
section
variable {P : Program} {w : World} {K : PySem.W.Frag} {mg : Str → Option Value} {base : Heap}
/-! ### _law_p2_goes_on -/
def spGoes : Sp := fun vs H Q _ => ∃ r p d l L M ns wl c, vs = [.ref r, .ref p, .ref d, .ref l] ∧ H r = some (.lst (rf L)) ∧ TiesIn H L ∧ H p = some (.tup (rf M)) ∧ TiesIn H M ∧ H d = some (dS (emp :: wl) c) ∧ H l = some (.tup (wl.map V.str)) ∧
  (∀ t ∈ tv L, TieOk t) ∧ (∃ NL : List Str, NL.length ≤ 20 ∧ (∀ t ∈ tv L, t.1 ∈ NL ∧ t.2.1 ∈ NL) ∧ ∀ x ∈ emp :: wl, x ∈ NL) ∧ L.length + 2 * wl.length ≤ 100 ∧ M.length ≤ 1000 ∧ (∀ x ∈ wl, NmOk x) ∧ Lots (tv L) ns ∧ tv M = shadowOf (tv L) ns wl ∧ c emp = 0 ∧ (∃ h, Feas (tv L) h) ∧
  ∀ H', Same H H' → Q (.bl true) H'
theorem ok_law_p2_goes_on (T : Tp K mg) : FnOk P w K mg base CX0 7 T.a__law_p2_goes_on T.d__law_p2_goes_on ["_law_due", "_law_told", "_law_chosen", "_law_wanted"] spGoes := by
  refine T.F__law_p2_goes_on.ok sc_law_p2_goes_on (fun vs H Q E h => ?_) (fun cdv A outer s H vs Q E hr h => ?_)
  · obtain ⟨r, p, d, l, L, M, ns, wl, c, rfl, _⟩ := h; rfl
  obtain ⟨r, p, d, l, L, M, ns, wl, c, rfl, hR, hL, hp, hM, hd, hl, tok, ⟨NL, n1, n2, n3⟩, few, fewM, wok, lots, eM, c0, ⟨h0, fe⟩, q⟩ := h
  refine ⟨_, PSs.nox (pss_cons (ps_set (i := 4) sc_law_p2_goes_on.nd rfl (Or.inl rfl) (pe_callTy call_list_of (by rfl) T.m_list (by decide +kernel) (pa_cons (pv 0) pa_nil)))
  (pss_cons (ps_for PassesOwn.never rfl (pi_tup (pv 3)) (pg_name (i := 5) sc_law_p2_goes_on.nd rfl (Or.inl rfl)) (pss_one (ps_set (i := 4) sc_law_p2_goes_on.nd rfl (Or.inl rfl) (pe_op op_cat (pv 4) (pe_lst (pa_cons (pe_tup (pa_cons pe_str (pa_cons (pv 5) (pa_cons (pe_dget (hu_of hr) (pv 2) (pv 5) (fun _ _ => rfl)) pa_nil)))) (pa_cons (pe_tup (pa_cons (pv 5) (pa_cons pe_str (pa_cons (pe_un un_neg (pe_dget (hu_of hr) (pv 2) (pv 5) (fun _ _ => rfl))) pa_nil)))) pa_nil)))))))
  (pss_cons (ps_set (i := 6) sc_law_p2_goes_on.nd rfl (Or.inl rfl) (pe_call (okplaced T) (hr.mono (by decide)) (by rfl) T.g_placed T.F_placed.kp (b_placed T) .nil pass0 (pa_cons (pe_make T.mk_Ties (okTies__init__ T) (hr.mono (by decide)) (by rfl) T.g_Ties (b_Ties__init__ T) .nil pass0 (pa_cons (pv 4) pa_nil)) pa_nil)))
  (pss_cons (ps_if (PW.pt (pw_or (pt_not (pt_val (pe_callB call_isi (by rfl) T.m_isinstance (by decide +kernel) (pa_cons (pv 6) (pa_cons (pe_bltn (v := .ty "tuple") (by rfl) T.m_tuple (by decide +kernel) rfl) pa_nil))))) (pw_or (pt_cmpR op_ne (pe_callB call_len_seq (by rfl) T.m_len PySem.boot_len (pa_cons (pv 6) pa_nil)) pe_int (nomark _)) (pw_or1 (pt_not (pt_val (pe_callB call_isi (by rfl) T.m_isinstance (by decide +kernel) (pa_cons (pe_ix ix_tup (pv 6) pe_int (fun _ _ => rfl)) (pa_cons (pe_bltn (v := .ty "str") (by rfl) T.m_str (by decide +kernel) rfl) pa_nil))))))))) (pss_one (ps_ret pe_bl)) pss_nil)
  (pss_cons (ps_if (pt_cmpR op_eq (pe_ix ix_tup (pv 6) pe_int (fun _ _ => rfl)) pe_str (nomark _)) (pss_one (ps_ret (pe_and (pe_call (ok_law_ring T) (hr.mono (by decide)) (by rfl) T.g__law_ring T.F__law_ring.kp (b__law_ring T) .nil pass0 (pa_cons (pv 4) (pa_cons (pe_ix ix_tup (pv 6) pe_int (fun _ _ => rfl)) pa_nil))) (pe_one (pe_not (pe_call (ok_law_p2_fits T) (hr.mono (by decide)) (by rfl) T.g__law_p2_fits T.F__law_p2_fits.kp (b__law_p2_fits T) .nil pass0 (pa_cons (pv 1) (pa_cons (pv 2) pa_nil)))))))) pss_nil)
  (pss_cons (ps_if (pt_cmpR op_ne (pe_ix ix_tup (pv 6) pe_int (fun _ _ => rfl)) pe_str (nomark _)) (pss_one (ps_ret pe_bl)) pss_nil)
  (pss_cons (ps_set (i := 7) sc_law_p2_goes_on.nd rfl (Or.inr rfl) (pe_call (ok_law_p2_read_days T) (hr.mono (by decide)) (by rfl) T.g__law_p2_read_days T.F__law_p2_read_days.kp (b__law_p2_read_days T) .nil pass0 (pa_cons (pe_ix ix_tup (pv 6) pe_int (fun _ _ => rfl)) (pa_cons (pe_call (ok_law_p2_lots T) (hr.mono (by decide)) (by rfl) T.g__law_p2_lots T.F__law_p2_lots.kp (b__law_p2_lots T) .nil pass0 (pa_cons (pv 4) pa_nil)) pa_nil))))
  (pss_cons (ps_if (PW.pt (pw_or (pt_cmpR op_isN (pv 7) pe_non (nomark _)) (pw_or (pt_not (pt_val (pe_call (ok_law_p2_fits T) (hr.mono (by decide)) (by rfl) T.g__law_p2_fits T.F__law_p2_fits.kp (b__law_p2_fits T) .nil pass0 (pa_cons (pv 4) (pa_cons (pv 7) pa_nil))))) (pw_or1 (pt_not (pt_val (pe_call (ok_law_p2_fits T) (hr.mono (by decide)) (by rfl) T.g__law_p2_fits T.F__law_p2_fits.kp (b__law_p2_fits T) .nil pass0 (pa_cons (pv 1) (pa_cons (pv 2) pa_nil))))))))) (pss_one (ps_ret pe_bl)) pss_nil)
  (pss_one (ps_ret (pe_cmpR op_eq (pe_callB call_len_seq (by rfl) T.m_len PySem.boot_len (pa_cons (pe_lc (own := [("_law_lot", 5)]) (te := (tVar 5)) (tt := (tTest (tOp _ (tDGet (tVar 7) (tVar 5)) (tDGet (tVar 2) (tVar 5))))) rfl sc_law_p2_goes_on.nd (pi_tup (pv 3)) (blkOk_by (own := [("_law_lot", 5)]) (N := N_law_p2_goes_on) (sc := defScope s_law_p2_goes_on) (by decide +kernel)) (fun _ _ _ _ _ => (pg_name (i := 5) sc_law_p2_goes_on.nd rfl (Or.inl rfl))) (fun _ _ _ _ _ => (pts_one (pt_cmpR op_ne (pe_dget (hu_of hr) (pv 7) (pv 5) (fun _ _ => rfl)) (pe_dget (hu_of hr) (pv 2) (pv 5) (fun _ _ => rfl)) (nomark _)))) (fun _ _ _ _ _ => (pv 5))) pa_nil)) pe_int (nomark _)))))))))))), ?_⟩
  refine ⟨_, rfl, r, _, rfl, .inl (sq_l hR), fun pp hpp => ?_⟩
  let SS (pp : Addr) (y5 : Option V) : L2.St := [some (.ref r), some (.ref p), some (.ref d), some (.ref l), some (.ref pp), y5, none, none]
  have e0 := same_new (o := .lst (rf L)) hpp
  refine ⟨_, rfl, l, rfl, ⟨_, sq_t (e0 _ _ hl)⟩, ?_⟩
  refine for_it (walk_tup (xs := wl.map V.str)) (fun k σ H1 => ∃ pp y5 X, σ = SS pp y5 ∧ Same H H1 ∧ H1 pp = some (.lst (rf (L ++ X))) ∧ TiesIn H1 X ∧ tv X = pins c (wl.take k)) ⟨pp, none, [], rfl, e0, by rw [List.append_nil]; exact upd_same, TiesIn.nil, rfl⟩ (fun _ _ _ _ ⟨_, _, _, _, z, _⟩ => sq_t (z _ _ hl)) ?_ ?_
  · rintro k v _ H1 H1' hk ⟨pp, y5, X, rfl, k1, k2, k3, k4⟩ ⟨rfl, hv⟩
    obtain ⟨x, hx, rfl⟩ := names_at hv
    have mx : x ∈ emp :: wl := List.mem_cons_of_mem _ (taken hx)
    refine ⟨_, rfl, _, rfl, _, rfl, _, rfl, d, _, rfl, dS_has (k1 _ _ hd) mx, sz3, fun t1 ht1 => ?_⟩
    have m1 := same_new (o := .tup [.str "", .str x, .int (c x)]) ht1
    have u1 : (upd H1' t1 (.tup [.str "", .str x, .int (c x)])) t1 = some (tieO (emp, x, c x)) := upd_same
    generalize upd H1' t1 (.tup [.str "", .str x, .int (c x)]) = H2 at m1 u1 ⊢
    refine ⟨_, rfl, _, rfl, _, rfl, d, _, rfl, dS_has (m1 _ _ (k1 _ _ hd)) mx, _, rfl, sz3, fun t2 ht2 => ?_⟩
    have m2 := same_new (o := .tup [.str x, .str "", .int (-(c x))]) ht2
    have u2 : (upd H2 t2 (.tup [.str x, .str "", .int (-(c x))])) t2 = some (tieO (x, emp, -(c x))) := upd_same
    generalize upd H2 t2 (.tup [.str x, .str "", .int (-(c x))]) = H3 at m2 u2 ⊢
    refine ⟨sz2, fun t3 ht3 => ?_⟩
    have m3 := same_new (o := .lst [.ref t1, .ref t2]) ht3
    have u3 : (upd H3 t3 (.lst [.ref t1, .ref t2])) t3 = some (.lst [.ref t1, .ref t2]) := upd_same
    generalize upd H3 t3 (.lst [.ref t1, .ref t2]) = H4 at m3 u3 ⊢
    have e4 := (m1.trans m2).trans m3
    have lX : X.length = 2 * min k wl.length := by rw [← tv_len, k4, pins_len, List.length_take]
    refine ⟨pp, t3, _, _, rfl, rfl, e4 _ _ k2, u3, ?_, fun p5 hp5 => ?_⟩
    · rw [rf_len, List.length_append]
      exact small (by show L.length + X.length + 2 ≤ 100000; omega)
    · refine ⟨p5, _, X ++ [(t1, (emp, x, c x)), (t2, (x, emp, -(c x)))], rfl, (k1.trans e4).trans (same_new hp5), ?_, ?_, ?_⟩
      · rw [upd_same, ← List.append_assoc, rf_app (L ++ X)]
        rfl
      · refine TiesIn.mono ?_ (same_new hp5)
        refine TiesIn.app (k3.mono e4) fun q' m => ?_
        rcases List.mem_cons.mp m with rfl | m
        · exact m3 _ _ (m2 _ _ u1)
        · rw [List.mem_singleton.mp m]
          exact m3 _ _ u2
      · rw [tv_app, k4, take_one hx, pins_app, pins_one]
        rfl
  · rintro _ H1 ⟨pp, y5, X, rfl, k1, k2, k3, k4⟩
    rw [List.length_map, List.take_length] at k4
    have hLX : TiesIn H1 (L ++ X) := TiesIn.app (hL.mono k1) k3
    have eT : tv (L ++ X) = tv L ++ pins c wl := by rw [tv_app, k4]
    have lX : X.length = 2 * wl.length := by rw [← tv_len, k4, pins_len]
    have okT : TsOk (tv (L ++ X)) := by
      rw [eT]
      refine ⟨fun t m => ?_, ?_, NL, n1, fun t m => ?_⟩
      · rcases List.mem_append.mp m with m | m
        · exact tok t m
        · obtain ⟨x, mx, rfl | rfl⟩ := mem_pins.mp m
          · exact ⟨.inl rfl, .inr (wok x mx), fun e => (wok x mx).ne e.symm⟩
          · exact ⟨.inr (wok x mx), .inl rfl, (wok x mx).ne⟩
      · rw [List.length_append, pins_len, tv_len]; exact few
      · rcases List.mem_append.mp m with m | m
        · exact n2 t m
        · obtain ⟨x, mx, rfl | rfl⟩ := mem_pins.mp m
          · exact ⟨n3 _ List.mem_cons_self, n3 _ (List.mem_cons_of_mem _ mx)⟩
          · exact ⟨n3 _ (List.mem_cons_of_mem _ mx), n3 _ List.mem_cons_self⟩
    have lenT : (L ++ X).length ≤ 100 := by rw [List.length_append]; omega
    have inW : ∀ t ∈ tv M, t.1 ∈ emp :: wl ∧ t.2.1 ∈ emp :: wl := fun t m => by
      rw [eM] at m
      obtain ⟨a, b, n⟩ := t
      exact (mem_shadow.mp m).2
    refine ⟨_, rfl, fun x dx hx hdx ne => make_ties hx hdx (.inl k2) hLX okT fun H2 e2 box => ?_⟩
    clear hx hdx ne dx
    refine ⟨x, L ++ X, rfl, box, okT, fun ns2 lots2 => ⟨fun H3 p3 d3 h e3 f3 hp3 hd3 => ?_, fun H3 p3 d3 rl e3 r3 none3 hp3 hd3 => ?_⟩⟩
    · -- days
      have e13 := e2.trans e3
      have eH := k1.trans e13
      rw [eT] at f3
      refine ⟨_, rfl, _, _, _, _, true, rfl, .ty _, .base (.tup hp3), kit_ty (by decide +kernel), true, rfl, iteF ?_⟩
      refine ⟨_, rfl, p3, _, rfl, .inr (sq_t hp3), rfl, false, rfl, iteF ?_⟩
      refine ⟨_, rfl, p3, _, _, _, rfl, rfl, sq_t hp3, rfl, _, _, _, _, true, rfl, .ty _, .base (.str _), kit_ty (by decide +kernel), true, rfl, iteF ?_⟩
      refine ⟨_, rfl, p3, _, _, _, rfl, rfl, sq_t hp3, rfl, rfl, false, ?_, iteF ?_⟩
      · exact congrArg V.bl (decide_eq_false fun z => absurd (V.str.inj z) (by decide +kernel))
      refine ⟨_, rfl, p3, _, _, _, rfl, rfl, sq_t hp3, rfl, rfl, false, ?_, iteF ?_⟩
      · exact congrArg V.bl (by rw [decide_eq_true rfl]; rfl)
      have hpp := e13 _ _ k2
      refine ⟨_, rfl, p3, _, _, _, rfl, rfl, sq_t hp3, rfl, _, rfl, pp, L ++ X, rfl, sq_l hpp, hLX.mono e13, okT, fun H4 lp ns3 e4 hlp lots3 => ?_⟩
      rw [lots3.uniq lots2] at hlp
      clear lots3
      have l20 := lots2.len okT
      refine ⟨d3, lp, ns2, _, rfl, hd3.mono e4, hlp, lots2.nd0, by omega, fun H5 dp f e5 hdp f0 fv => ?_⟩
      have e45 := e4.trans e5
      have fval : ∀ y ∈ emp :: ns2, f y = h y - h emp := fun y m => by
        rcases List.mem_cons.mp m with rfl | m
        · rw [f0]; omega
        · exact fv y m
      have feasF : Feas (tv (L ++ X)) f := fun a b n m => by
        have en := ends_in lots2 m
        rw [eT] at m
        have z := f3 a b n m
        rw [fval a en.1, fval b en.2]
        omega
      refine ⟨_, rfl, rfl, false, rfl, iteF ?_⟩
      refine ⟨_, rfl, _, rfl, pp, dp, L ++ X, emp :: ns2, f, rfl, .inl (e45 _ _ hpp), hLX.mono (e13.trans e45), hdp, fun t m => ends_in lots2 m, by omega, fun H6 e6 => ⟨_, rfl, ?_⟩⟩
      rw [fitsB_iff.mpr feasF]
      have eH6 := (eH.trans e45).trans e6
      refine iteF ⟨_, rfl, _, rfl, p, d, M, emp :: wl, c, rfl, .inr (eH6 _ _ hp), hM.mono eH6, eH6 _ _ hd, inW, fewM, fun H7 e7 => ⟨_, rfl, ?_⟩⟩
      have fitsC : fitsB (tv M) c = true := by
        rw [eM]
        exact fitsB_iff.mpr (shadow_fits lots c0 f3)
      rw [fitsC]
      have eH7 := eH6.trans e7
      have hdp7 := e7 _ _ (e6 _ _ hdp)
      refine iteF ⟨_, rfl, l, rfl, ⟨_, sq_t (eH7 _ _ hl)⟩, fun D hD => ?_⟩
      refine lc_keep (walk_tup (xs := wl.map V.str)) rfl (fun _ => false) hD (fun H' e => sq_t (e _ _ (eH7 _ _ hl))) (by rw [List.length_map]; omega) (fun _ => rfl) (fun _ => rfl) ?_ ?_
      · intro i v H' hv e R hR
        obtain ⟨y, hy, rfl⟩ := names_at hv
        have my := taken hy
        have mn : y ∈ ns2 := by
          refine (lots2.mem y).mpr ⟨(wok y my).ne, (emp, y, c y), ?_, .inr rfl⟩
          rw [eT]
          exact List.mem_append_right _ (mem_pins.mpr ⟨y, my, .inl rfl⟩)
        have same : f y = c y := by
          have z := (feas_pins.mp f3).2 y my
          rw [fval y (List.mem_cons_of_mem _ mn)]
          omega
        refine ⟨_, rfl, _, rfl, dp, _, rfl, dS_has (e _ _ hdp7) (List.mem_cons_of_mem _ mn), _, rfl, _, rfl, d, _, rfl, dS_has (e _ _ (eH7 _ _ hd)) (List.mem_cons_of_mem _ my), rfl, false, ?_, hR H' (Same.refl _)⟩
        rw [same, decide_eq_true rfl]
        rfl
      · intro H8 e8 h8
        rw [filt_no] at h8
        refine ⟨D, _, rfl, .inl (sq_l h8), rfl, ?_⟩
        exact q _ (eH7.trans e8)
    · -- a ring
      have e13 := e2.trans e3
      have eH := k1.trans e13
      have hpp := e13 _ _ k2
      refine ⟨_, rfl, _, _, _, _, true, rfl, .ty _, .base (.tup hp3), kit_ty (by decide +kernel), true, rfl, iteF ?_⟩
      refine ⟨_, rfl, p3, _, rfl, .inr (sq_t hp3), rfl, false, rfl, iteF ?_⟩
      refine ⟨_, rfl, p3, _, _, _, rfl, rfl, sq_t hp3, rfl, _, _, _, _, true, rfl, .ty _, .base (.str _), kit_ty (by decide +kernel), true, rfl, iteF ?_⟩
      refine ⟨_, rfl, p3, _, _, _, rfl, rfl, sq_t hp3, rfl, rfl, true, ?_, iteT ?_⟩
      · exact congrArg V.bl (decide_eq_true rfl)
      refine ⟨_, rfl, _, rfl, p3, _, _, _, rfl, rfl, sq_t hp3, rfl, pp, d3, L ++ X, rl, rfl, hpp, hLX.mono e13, hd3, r3, by omega, fun H4 e4 => ⟨true, rfl, iteT ?_⟩⟩
      have eH4 := eH.trans e4
      refine ⟨_, rfl, _, rfl, p, d, M, emp :: wl, c, rfl, .inr (eH4 _ _ hp), hM.mono eH4, eH4 _ _ hd, inW, fewM, fun H5 e5 => ⟨_, rfl, ?_⟩⟩
      have fitsC : fitsB (tv M) c = false := by
        rw [eM]
        refine fitsB_no fun z => ?_
        obtain ⟨h, hf⟩ := shadow_goes lots fe c0 z
        rw [← eT] at hf
        exact none3 h hf
      rw [fitsC]
      exact q _ (eH4.trans e5)
end
end Sw
namespace Sw
open PySem PySem.Spec PyProof.Rows L2 Wr WM
theorem Lots.dom {U T : List Tie} {ns : List Str} (x : Dom U T) (ne : ∀ a b n, (a, b, n) ∈ T → a ≠ b) (h : Lots U ns) : Lots T ns := by
  refine ⟨h.srt, h.nd, fun c => (h.mem c).trans ?_⟩
  have e := x.ends ne (c := c)
  constructor
  · rintro ⟨h1, ⟨a, b, n⟩, m, h2⟩
    obtain ⟨a, b, n, m, h2⟩ := e.mpr ⟨a, b, n, m, h2⟩
    exact ⟨h1, (a, b, n), m, h2⟩
  · rintro ⟨h1, ⟨a, b, n⟩, m, h2⟩
    obtain ⟨a, b, n, m, h2⟩ := e.mp ⟨a, b, n, m, h2⟩
    exact ⟨h1, (a, b, n), m, h2⟩
theorem fw_dom {U T : List Tie} {names : List Str} {h : Str → Int} (x : Dom U T) (fe : Feas T h) (hT : ∀ a b n, (a, b, n) ∈ T → a ∈ names ∧ b ∈ names) : fw U names = fw T names := by
  have hU : ∀ a b n, (a, b, n) ∈ U → a ∈ names ∧ b ∈ names := fun a b n m => hT a b n (x.sub _ m)
  have feU : Feas U h := fe.mono x.sub
  funext a
  by_cases m : a ∈ names
  · have i1 := fw_isD feU hU m
    have i2 := fw_isD fe hT m
    refine IsD.ext (T := T) (s := a) (fun v d => ?_) i2
    exact (i1 v d).trans x.least
  · funext b
    have none_ : ∀ V : List Tie, (∀ a b n, (a, b, n) ∈ V → a ∈ names ∧ b ∈ names) → fw V names a b = none := fun V hV => by
      cases z : fw V names a b with
      | none => rfl
      | some v => exact absurd (fw_supp hV a b v z).1 m
    rw [none_ U hU, none_ T hT]
section
variable {P : Program} {w : World} {K : PySem.W.Frag} {mg : Str → Option Value} {base : Heap}
def spPLean (C : Addr) : Sp := fun vs H Q _ => ∃ b r Lb L, vs = [.ref b, .ref r] ∧ BoxAt C H b Lb ∧ H r = some (.lst (rf L)) ∧ TiesIn H L ∧ tv Lb = tv L ∧ TsOk (tv L) ∧ (∃ h, Feas (tv L) h) ∧ ∀ H', Same H H' → Q (.bl true) H'
theorem ok_law_p2_lean (T : Tp K mg) : FnOk P w K mg base CX0 9 T.a__law_p2_lean T.d__law_p2_lean ["_law_box", "_law_due"] (spPLean T.a_Ties) := by
  refine T.F__law_p2_lean.ok sc_law_p2_lean (fun vs H Q E h => ?_) (fun cdv A outer s H vs Q E hr h => ?_)
  · obtain ⟨b, r, Lb, L, rfl, _⟩ := h; rfl
  obtain ⟨b, r, Lb, L, rfl, hb, hR, hL, eL, ok, ⟨h0, fe⟩, q⟩ := h
  refine ⟨_, PSs.nox (pss_cons (ps_set (i := 2) sc_law_p2_lean.nd rfl (Or.inl rfl) (pe_call (oklean_ties T) (hr.mono (by decide)) (by rfl) T.g_lean_ties T.F_lean_ties.kp (b_lean_ties T) .nil pass0 (pa_cons (pv 0) pa_nil)))
  (pss_cons (ps_set (i := 3) sc_law_p2_lean.nd rfl (Or.inl rfl) (pe_callTy call_list_of (by rfl) T.m_list (by decide +kernel) (pa_cons (pv 1) pa_nil)))
  (pss_cons (ps_set (i := 4) sc_law_p2_lean.nd rfl (Or.inl rfl) pe_int)
  (Evl.pss_cut (ps_while PassesOwn.never (pt_cmpR op_lt (pv 4) (pe_callB call_len_seq (by rfl) T.m_len PySem.boot_len (pa_cons (pv 3) pa_nil)) (nomark _)) (pss_cons (ps_set (i := 5) sc_law_p2_lean.nd rfl (Or.inl rfl) (pe_ix ix_list (pv 3) (pv 4) (fun _ _ => rfl)))
  (pss_cons (ps_set (i := 6) sc_law_p2_lean.nd rfl (Or.inl rfl) (pe_op op_cat (pe_slice sl_list (pv 3) po_none (po_some (pv 4))) (pe_slice sl_list (pv 3) (po_some (pe_op op_add (pv 4) pe_int)) po_none)))
  (pss_cons (ps_set (i := 7) sc_law_p2_lean.nd rfl (Or.inl rfl) (pe_call (ok_law_p2_reach T) (hr.mono (by decide)) (by rfl) T.g__law_p2_reach T.F__law_p2_reach.kp (b__law_p2_reach T) .nil pass0 (pa_cons (pv 6) (pa_cons (pe_ix ix_tup (pv 5) pe_int (fun _ _ => rfl)) pa_nil))))
  (pss_one (ps_if (PW.pt (pw_and (pt_cmp (pc_din (hu_of hr) (pe_ix ix_tup (pv 5) pe_int (fun _ _ => rfl)) (pv 7))) (pw_and1 (pt_cmpR op_le (pe_dget (hu_of hr) (pv 7) (pe_ix ix_tup (pv 5) pe_int (fun _ _ => rfl)) (fun _ _ => rfl)) (pe_ix ix_tup (pv 5) pe_int (fun _ _ => rfl)) (nomark _))))) (pss_one (ps_set (i := 3) sc_law_p2_lean.nd rfl (Or.inl rfl) (pv 6))) (pss_one (ps_set (i := 4) sc_law_p2_lean.nd rfl (Or.inl rfl) (pe_op op_add (pv 4) pe_int)))))))))
  (pss_one (ps_ret (pe_and (pe_call (ok_law_p2_are_ties T) (hr.mono (by decide)) (by rfl) T.g__law_p2_are_ties T.F__law_p2_are_ties.kp (b__law_p2_are_ties T) .nil pass0 (pa_cons (pv 2) pa_nil)) (pe_and (pe_cmpR (op_eqD (hu_D hr)) (pe_callTy call_list_of (by rfl) T.m_list (by decide +kernel) (pa_cons (pv 2) pa_nil)) (pv 3) (nomark _)) (pe_one (pe_cmpR (op_eqG (rcG_ins (okTable__eq__ T) T.eq_Table T.ef_Table (b_Table__eq__ T) pass0) (hr.mono (by decide))) (pe_make T.mk_Table (okTable__init__ T) (hr.mono (by decide)) (by rfl) T.g_Table (b_Table__init__ T) .nil pass0 (pa_cons (pe_make T.mk_Ties (okTies__init__ T) (hr.mono (by decide)) (by rfl) T.g_Ties (b_Ties__init__ T) .nil pass0 (pa_cons (pv 2) pa_nil)) pa_nil)) (pe_make T.mk_Table (okTable__init__ T) (hr.mono (by decide)) (by rfl) T.g_Table (b_Table__init__ T) .nil pass0 (pa_cons (pv 0) pa_nil)) (nomark _))))))))))), ?_⟩
  have okb : TsOk (tv Lb) := by rw [eL]; exact ok
  have feb : Feas (tv Lb) h0 := by rw [eL]; exact fe
  have few := ok.few
  rw [tv_len] at few
  refine ⟨_, rfl, b, Lb, rfl, hb, okb, ⟨h0, feb⟩, fun H1 p M e1 hp hM lM eM => ?_⟩
  refine ⟨_, rfl, r, _, rfl, .inl (sq_l (e1 _ _ hR)), fun l hl => ?_⟩
  have e2 := e1.trans (same_new (o := .lst (rf L)) hl)
  let SS (l : Addr) (k : Nat) (y5 y6 y7 : Option V) : L2.St := [some (.ref b), some (.ref r), some (.ref p), some (.ref l), some (.int ((k : Nat) : Int)), y5, y6, y7]
  have ex : Same H1 (upd H1 l (.lst (rf L))) := same_new hl
  refine ⟨fun σ H2 => ∃ M' k pl y5 y6 y7, σ = SS pl k y5 y6 y7 ∧ Same H1 H2 ∧ H2 pl = some (.lst (rf M')) ∧ (∀ q ∈ M', q ∈ L) ∧ tv M' = lean (tv L) 0, ?_, ?_⟩
  · refine ⟨fun m σ H2 => ∃ M k pl y5 y6 y7, σ = SS pl k y5 y6 y7 ∧ Same H1 H2 ∧ H2 pl = some (.lst (rf M)) ∧ (∀ q ∈ M, q ∈ L) ∧ M.length ≤ L.length ∧ lean (tv M) k = lean (tv L) 0 ∧ k ≤ M.length ∧ m = M.length - k, ⟨_, L, 0, l, none, none, none, rfl, ex, upd_same, fun _ m => m, Nat.le_refl _, rfl, Nat.zero_le _, rfl⟩, ?_⟩
    rintro m _ H2 ⟨M, k, pl, y5, y6, y7, rfl, e3, h1, h2, h3, h4, h5, rfl⟩
    refine ⟨_, rfl, _, rfl, pl, _, rfl, .inl (sq_l h1), _, _, rfl, rfl, _, rfl, ite2 (fun lt => ?_) (fun lt => ?_)⟩
    · have lt : k < M.length := by
        have z : ((k : Nat) : Int) < (((rf M).length : Nat) : Int) := of_decide_eq_true lt
        rw [rf_len] at z
        omega
      refine ⟨fun σ H3 => ∃ M k' pl y5 y6 y7, σ = SS pl k' y5 y6 y7 ∧ Same H1 H3 ∧ H3 pl = some (.lst (rf M)) ∧ (∀ q ∈ M, q ∈ L) ∧ M.length ≤ L.length ∧ lean (tv M) k' = lean (tv L) 0 ∧ k' ≤ M.length ∧ M.length - k' < _, fun σ' H' ⟨M', k', pl', y5', y6', y7', a1, a2, a3, a4, a5, a6, a7, a8⟩ => ⟨_, a8, M', k', pl', y5', y6', y7', a1, a2, a3, a4, a5, a6, a7, rfl⟩, ?_⟩
      obtain ⟨⟨pt, t⟩, hq⟩ : ∃ q, M[k]? = some q := ⟨M[k], List.getElem?_eq_getElem lt⟩
      have mq := List.mem_of_getElem? hq
      refine ⟨_, rfl, _, rfl, pl, _, _, _, rfl, rfl, sq_l h1, atI_nat (at_rf hq), ?_⟩
      refine ⟨_, rfl, _, rfl, _, rfl, pl, _, rfl, sq_l h1, fun p1 hp1 => ?_⟩
      rw [cut_take]
      have n1 := same_new (o := .lst ((rf M).take k)) hp1
      refine ⟨_, rfl, _, rfl, _, _, rfl, rfl, _, rfl, pl, _, rfl, sq_l (n1 _ _ h1), fun p2 hp2 => ?_⟩
      have cd : cutV (rf M) (some (((k : Nat) : Int) + 1)) none = (rf M).drop (k + 1) := cut_drop (rf M) (k + 1)
      rw [cd]
      have n2 := same_new (o := .lst ((rf M).drop (k + 1))) hp2
      refine ⟨p1, p2, _, _, rfl, rfl, n2 _ _ upd_same, upd_same, ?_, fun p3 hp3 => ?_⟩
      · rw [List.length_take, List.length_drop, rf_len]
        exact small (by omega)
      rw [rf_without]
      have n3 := same_new (o := .lst (rf (withoutL M k))) hp3
      have e4 := ((e3.trans n1).trans n2).trans n3
      have h1' := n3 _ _ (n2 _ _ (n1 _ _ h1))
      have u3 : (upd (upd (upd H2 p1 (.lst ((rf M).take k))) p2 (.lst ((rf M).drop (k + 1)))) p3 (.lst (rf (withoutL M k)))) p3 = some (.lst (rf (withoutL M k))) := upd_same
      have go : ∀ H3, H3 = (upd (upd (upd H2 p1 (.lst ((rf M).take k))) p2 (.lst ((rf M).drop (k + 1)))) p3 (.lst (rf (withoutL M k)))) → Same H1 H3 ∧ H3 pl = some (.lst (rf M)) ∧ H3 p3 = some (.lst (rf (withoutL M k))) := fun H3 e => by
        rw [e]
        exact ⟨e4, h1', u3⟩
      generalize hH3 : (upd (upd (upd H2 p1 (.lst ((rf M).take k))) p2 (.lst ((rf M).drop (k + 1)))) p3 (.lst (rf (withoutL M k)))) = H3
      obtain ⟨e4, h1', u3⟩ := go H3 hH3.symm
      clear go hH3
      have eH3 := e1.trans e4
      have hpt : H3 pt = some (tieO t) := eH3 _ _ (hL _ (h2 _ mq))
      have lw := len_without lt
      have sub : ∀ u ∈ tv (withoutL M k), u ∈ tv L := fun u m => by
        obtain ⟨q', m', rfl⟩ := mem_tv m
        exact List.mem_map.mpr ⟨q', h2 _ (mem_without m'), rfl⟩
      have fe3 : Feas (tv (withoutL M k)) h0 := fe.mono sub
      refine ⟨_, rfl, _, rfl, pt, _, _, _, rfl, rfl, sq_t hpt, rfl, p3, withoutL M k, t.1, rfl, u3, (hL.mono eH3).sub fun q' m => h2 _ (mem_without m), ⟨h0, fe3⟩, by omega, fun H4 d F e5 row D => ?_⟩
      have im := imp_row (t := t) fe3 D
      have hpt4 := e5 _ _ hpt
      have kl : k < (tv M).length := by rw [tv_len]; exact lt
      have gt : (tv M)[k] = t := by
        have z := at_tv hq
        rw [List.getElem?_eq_getElem kl] at z
        exact Option.some.inj z
      have yes : Imp (tv (withoutL M k)) t → lean (WM.without (tv M) k) k = lean (tv L) 0 := fun y => by
        rw [← lean_yes kl (by rw [gt, ← tv_without]; exact y)]
        exact h4
      have no : ¬ Imp (tv (withoutL M k)) t → lean (tv M) (k + 1) = lean (tv L) 0 := fun y => by
        rw [← lean_no kl (by rw [gt, ← tv_without]; exact y)]
        exact h4
      refine ⟨_, rfl, pt, _, _, _, rfl, rfl, sq_t hpt4, rfl, _, rfl, d, _, rfl, row.get t.2.1, _, rfl, ?_⟩
      cases g1 : F t.2.1 with
      | none =>
        refine ⟨_, rfl, _, _, rfl, rfl, M, k + 1, pl, _, _, _, rfl, e4.trans e5, e5 _ _ h1', h2, h3, no ?_, by omega, by omega⟩
        intro z
        obtain ⟨x, e, _⟩ := im.mp z
        rw [g1] at e
        cases e
      | some x =>
        refine ⟨_, rfl, _, rfl, pt, _, _, _, rfl, rfl, sq_t hpt4, rfl, d, _, rfl, row.has g1, _, rfl, pt, _, _, _, rfl, rfl, sq_t hpt4, rfl, _, _, rfl, rfl, _, rfl, ite2 (fun le => ?_) (fun le => ?_)⟩
        · have le : x ≤ t.2.2 := of_decide_eq_true le
          refine ⟨_, rfl, withoutL M k, k, p3, _, _, _, rfl, e4.trans e5, e5 _ _ u3, fun q' m => h2 _ (mem_without m), by omega, ?_, by omega, by omega⟩
          rw [tv_without]
          exact yes (im.mpr ⟨x, g1, le⟩)
        · refine ⟨_, rfl, _, _, rfl, rfl, M, k + 1, pl, _, _, _, rfl, e4.trans e5, e5 _ _ h1', h2, h3, no ?_, by omega, by omega⟩
          intro z
          obtain ⟨x', e, l'⟩ := im.mp z
          rw [g1] at e
          rw [← Option.some.inj e] at l'
          exact le (decide_eq_true l')
    · have ge : ¬ k < M.length := fun z => lt (decide_eq_true (by rw [rf_len]; omega))
      rw [lean_out (by rw [tv_len]; exact ge)] at h4
      exact ⟨M, k, pl, y5, y6, y7, rfl, e3, h1, h2, h4⟩
  · rintro _ H2 ⟨M', k, pl, y5, y6, y7, rfl, e3, h1, h2, h3⟩
    have eH2 := e1.trans e3
    have hp2 := e3 _ _ hp
    have bx := hb.mono eH2
    obtain ⟨dx, rr, b1, b2, b3⟩ := bx
    have hM2 : TiesIn H2 M := b3.sub hM
    have fewM : M.length ≤ 100 := by
      have z := okb.few
      rw [tv_len] at z
      omega
    refine ⟨_, rfl, p, M, rfl, hp2, hM2, by omega, fun H3 e4 => ⟨true, rfl, iteT ?_⟩⟩
    have eH3 := eH2.trans e4
    have hp3 := e4 _ _ hp2
    refine ⟨_, rfl, p, _, rfl, .inr (sq_t hp3), fun l4 hl4 => ?_⟩
    have n4 := same_new (o := .lst (rf M)) hl4
    have u4 : (upd H3 l4 (.lst (rf M))) l4 = some (.lst (rf M)) := upd_same
    have eH4 := eH3.trans n4
    have h1' := n4 _ _ (e4 _ _ h1)
    have hp4 := n4 _ _ hp3
    have hM4 := (hM2.mono e4).mono n4
    generalize upd H3 l4 (.lst (rf M)) = H4 at n4 u4 eH4 h1' hp4 hM4 ⊢
    have hM' : TiesIn H4 M' := (hL.mono eH4).sub h2
    have eMM : tv M = tv M' := by rw [eM, eL, h3]
    have subM : ∀ t ∈ tv M, t ∈ tv Lb := fun t m => by
      obtain ⟨q', m', rfl⟩ := mem_tv m
      exact List.mem_map.mpr ⟨q', hM _ m', rfl⟩
    have okM : TsOk (tv M) := okb.sub subM (by rw [tv_len]; exact fewM)
    have sh := shaped_ties okM.ok
    have sh' : SeqAt.shaped (.list ((tv M').map tieD)) = true := by rw [← eMM]; exact sh
    refine ⟨_, rfl, _, _, .lst (sq_l u4) (dp_ties hM4), .lst (sq_l h1') (dp_ties hM'), sh, sh', true, ?_, iteT ?_⟩
    · rw [← eMM, SeqAt.eqv_refl _ (SeqAt.canLay_of_shaped sh)]
    have dom : Dom (tv M) (tv Lb) := by rw [eM]; exact lean_dom _ _
    have neb : ∀ a b n, (a, b, n) ∈ tv Lb → a ≠ b := fun a b n m => (okb.ok _ m).ne
    -- the two tables
    refine ⟨_, rfl, fun x dx hx hdx ne => make_ties hx hdx (.inr hp4) hM4 okM fun H5 e5 box5 => ?_⟩
    clear hx hdx ne dx
    refine fun x1 dx hx hdx ne => make_table hx hdx box5 okM ⟨h0, feb.mono subM⟩ fun H6 ns1 e6 lots1 tab1 => ?_
    clear hx hdx ne dx
    have e46 := (eH4.trans e5).trans e6
    refine ⟨_, rfl, fun x2 dx hx hdx ne => make_table hx hdx (hb.mono e46) okb ⟨h0, feb⟩ fun H7 ns2 e7 lots2 tab2 => ?_⟩
    clear hx hdx ne dx
    have ens : ns1 = ns2 := (Lots.dom dom neb lots1).uniq lots2
    subst ens
    have tab1 := tab1.mono e7
    obtain ⟨dx1, a1, d1, t1, M1, i1, _⟩ := tab1.ex
    obtain ⟨dx2, a2, d2, t2, M2, i2, _⟩ := tab2.ex
    refine ⟨⟨x1, x2, dx1, dx2, _, _, rfl, rfl, i1, i2, tv M, tv Lb, ns1, tab1, tab2, fw_dom dom feb (lots_ends lots2), fun x m => ?_⟩, fun H8 e8 => q H8 ((e46.trans e7).trans e8)⟩
    rcases List.mem_cons.mp m with rfl | m
    · decide +kernel
    · obtain ⟨_, t, mt, e⟩ := (lots2.mem x).mp m
      rcases e with rfl | rfl
      · exact end_str (okb.ok t mt).one
      · exact end_str (okb.ok t mt).two
end
end Sw
namespace Sw
open PySem PySem.Spec PyProof.Rows L2 Wr WM
/-! ### the bag of draws: what it holds is not followed, only that it goes on -/
def bagL (c : Addr) (i1 i2 i3 i4 i5 : Int) : HO := .lst [.ref c, .int i1, .int i2, .int i3, .int i4, .int i5]
structure Bag (H : Hp) (b c : Addr) (ns : List Int) (i1 i2 i3 i4 i5 : Int) : Prop where
  at_ : H b = some (bagL c i1 i2 i3 i4 i5)
  cells : H c = some (.lst (ns.map V.int))
  ne : c ≠ b
  p1 : 0 ≤ i1
  p2 : 0 ≤ i2
  p4 : 0 ≤ i4
def BagC (H : Hp) (b c : Addr) (ns : List Int) : Prop := ∃ i1 i2 i3 i4 i5, Bag H b c ns i1 i2 i3 i4 i5
def BagOk (H : Hp) (b : Addr) : Prop := ∃ c ns, BagC H b c ns
theorem BagC.mono {H H' : Hp} {b c : Addr} {ns : List Int} (h : BagC H b c ns) (e : Same H H') : BagC H' b c ns := by
  obtain ⟨i1, i2, i3, i4, i5, h⟩ := h
  exact ⟨i1, i2, i3, i4, i5, e _ _ h.at_, e _ _ h.cells, h.ne, h.p1, h.p2, h.p4⟩
theorem BagOk.mono {H H' : Hp} {b : Addr} (h : BagOk H b) (e : Same H H') : BagOk H' b := by
  obtain ⟨c, ns, h⟩ := h
  exact ⟨c, ns, h.mono e⟩
theorem ints_inj : ∀ {a b : List Int}, a.map V.int = b.map V.int → a = b
  | [], [], _ => rfl
  | [], _ :: _, h => nomatch h
  | _ :: _, [], h => nomatch h
  | x :: a, y :: b, h => by
    rw [List.map_cons, List.map_cons] at h
    rw [V.int.inj (List.cons.inj h).1, ints_inj (List.cons.inj h).2]
theorem Bag.uniq {H : Hp} {b c c' : Addr} {ns ns' : List Int} {i1 i2 i3 i4 i5 : Int} (x : Bag H b c ns i1 i2 i3 i4 i5) (y : BagC H b c' ns') : c' = c ∧ ns' = ns := by
  obtain ⟨j1, j2, j3, j4, j5, y⟩ := y
  have e : bagL c' j1 j2 j3 j4 j5 = bagL c i1 i2 i3 i4 i5 := Option.some.inj (y.at_.symm.trans x.at_)
  have ec : c' = c := V.ref.inj (List.cons.inj (HO.lst.inj e)).1
  subst ec
  exact ⟨rfl, ints_inj (HO.lst.inj (Option.some.inj (y.cells.symm.trans x.cells)))⟩
theorem Bag.set {H : Hp} {b c : Addr} {ns : List Int} {i1 i2 i3 i4 i5 j1 j2 j3 j4 j5 : Int} (h : Bag H b c ns i1 i2 i3 i4 i5) (q1 : 0 ≤ j1) (q2 : 0 ≤ j2) (q4 : 0 ≤ j4) : Bag (upd H b (bagL c j1 j2 j3 j4 j5)) b c ns j1 j2 j3 j4 j5 :=
  ⟨upd_same, by rw [upd_ne h.ne]; exact h.cells, h.ne, q1, q2, q4⟩
theorem BagOk.is {H : Hp} {b : Addr} (h : BagOk H b) : ∃ xs, H b = some (.lst xs) := by
  obtain ⟨c, ns, i1, i2, i3, i4, i5, h⟩ := h
  exact ⟨_, h.at_⟩
/-- what a call with the bag leaves -/
def Drawn (H : Hp) (b : Addr) (H' : Hp) : Prop := Same (era H b) H' ∧ ∀ c ns, BagC H b c ns → BagC H' b c ns
theorem Drawn.mk_ {H H' : Hp} {b c : Addr} {ns : List Int} {i1 i2 i3 i4 i5 j1 j2 j3 j4 j5 : Int} (x : Bag H b c ns i1 i2 i3 i4 i5) (e : Same (era H b) H') (y : Bag H' b c ns j1 j2 j3 j4 j5) : Drawn H b H' :=
  ⟨e, fun c' ns' z => by
    obtain ⟨rfl, rfl⟩ := x.uniq z
    exact ⟨_, _, _, _, _, y⟩⟩
theorem Drawn.ok {H H' : Hp} {b : Addr} (x : Drawn H b H') (h : BagOk H b) : BagOk H' b := by
  obtain ⟨c, ns, h⟩ := h
  exact ⟨c, ns, x.2 _ _ h⟩
theorem era_era {H H' : Hp} {b : Addr} (e : Same (era H b) H') : Same (era H b) (era H' b) := fun a o h => by
  by_cases z : a = b
  · subst z
    rw [era_self] at h
    cases h
  · rw [era_ne z]
    exact e a o h
theorem Drawn.trans {H H1 H2 : Hp} {b : Addr} (x : Drawn H b H1) (y : Drawn H1 b H2) : Drawn H b H2 := ⟨(era_era x.1).trans y.1, fun c ns h => y.2 _ _ (x.2 _ _ h)⟩
theorem Drawn.same {H H1 : Hp} {b : Addr} (e : Same H H1) : Drawn H b H1 := ⟨Same.trans era_same e, fun c ns h => h.mono e⟩
theorem Drawn.then_ {H H1 H2 : Hp} {b : Addr} (x : Drawn H b H1) (e : Same H1 H2) : Drawn H b H2 := x.trans (Drawn.same e)
theorem Drawn.keep {H H' : Hp} {b a : Addr} {o : HO} (x : Drawn H b H') (ne : a ≠ b) (h : H a = some o) : H' a = some o := x.1 _ _ (by rw [era_ne ne]; exact h)
theorem BagOk.ne {H : Hp} {b D : Addr} (h : BagOk H b) (e : H D = none) : D ≠ b := fun z => by
  obtain ⟨xs, h⟩ := h.is
  rw [z, h] at e
  cases e
/-- what came after the start may change -/
theorem Drawn.mut {H H' : Hp} {b D : Addr} {o : HO} (x : Drawn H b H') (hb : BagOk H b) (h : H D = none) : Drawn H b (upd H' D o) := by
  have nb := hb.ne h
  refine ⟨same_mut x.1 (by rw [era_ne nb]; exact h), fun c ns z => ?_⟩
  obtain ⟨j1, j2, j3, j4, j5, y⟩ := x.2 _ _ z
  obtain ⟨i1, i2, i3, i4, i5, z⟩ := z
  refine ⟨j1, j2, j3, j4, j5, by rw [upd_ne nb.symm]; exact y.at_, ?_, y.ne, y.p1, y.p2, y.p4⟩
  rw [upd_ne (ne_of_none z.cells h)]
  exact y.cells
theorem Drawn.refl {H : Hp} {b : Addr} : Drawn H b H := Drawn.same (Same.refl _)
/-- a place that is new later was new before, but for the bag -/
theorem Drawn.back {H H' : Hp} {b D : Addr} (x : Drawn H b H') (hb : BagOk H b) (h : H' D = none) : H D = none := by
  cases e : H D with
  | none => rfl
  | some o =>
    have nb : D ≠ b := (x.ok hb).ne h
    rw [x.keep nb e] at h
    cases h
section
variable {P : Program} {w : World} {K : PySem.W.Frag} {mg : Str → Option Value} {base : Heap}
/-! ### _law_mixed -/
def spMixed : Sp := fun vs H Q _ => ∃ a b : Int, vs = [.int a, .int b] ∧ ∀ x : Int, Q (.int x) H
theorem ok_law_mixed (T : Tp K mg) : FnOk P w K mg base CX0 1 T.a__law_mixed T.d__law_mixed ["_law_seed", "_law_turn"] spMixed := by
  refine T.F__law_mixed.ok sc_law_mixed (fun vs H Q E h => ?_) (fun cdv A outer s H vs Q E hr h => ?_)
  · obtain ⟨a, b, rfl, _⟩ := h; rfl
  obtain ⟨a, b, rfl, q⟩ := h
  refine ⟨_, PSs.nox (pss_cons (ps_set (i := 2) sc_law_mixed.nd rfl (Or.inl rfl) (pe_op op_mod (pe_callTy call_int1 (by rfl) T.m_int boot_int (pa_cons (pe_op op_add (pe_op op_mul (pe_op op_add (pv 0) pe_int) pe_int) (pe_op op_mul (pe_op op_add (pv 1) pe_int) pe_int)) pa_nil)) pe_int))
  (pss_one (ps_ret (pe_op op_fdiv (pe_op op_mod (pe_callTy call_int1 (by rfl) T.m_int boot_int (pa_cons (pe_op op_add (pe_op op_add (pe_op op_mul (pv 2) (pv 2)) (pe_op op_mul (pv 2) pe_int)) (pe_op op_mul pe_int (pv 1))) pa_nil)) pe_int) pe_int)))), ?_⟩
  refine ⟨_, rfl, _, _, rfl, rfl, _, _, rfl, rfl, .inr ⟨by decide, by decide⟩, _, rfl, _, _, rfl, rfl, _, _, rfl, rfl, .inr ⟨by decide, by decide⟩, _, _, rfl, rfl, .inl ⟨_, rfl, _, _, rfl, rfl, (by show (0 : Int) < 2147483647; decide), ?_⟩⟩
  generalize hf : ((a + 1) * 48271 + (b + 1) * 69621) % 2147483647 = f
  have f0 : 0 ≤ f := by rw [← hf]; exact Int.emod_nonneg _ (by decide)
  have f1 : f < 2147483647 := by rw [← hf]; exact Int.emod_lt_of_pos _ (by decide)
  refine ⟨_, rfl, _, rfl, _, _, rfl, rfl, .inl ⟨by omega, by omega⟩, _, rfl, _, _, rfl, rfl, .inr ⟨by decide, by decide⟩, _, _, rfl, rfl, _, rfl, _, _, rfl, rfl, .inl ⟨by decide, by decide⟩, _, _, rfl, rfl, .inl ⟨_, rfl, _, _, rfl, rfl, (by show (0 : Int) < 2147483629; decide), _, _, rfl, rfl, ⟨by decide, by decide⟩, ?_⟩⟩
  exact q _
/-! ### _law_draw -/
def spDraw : Sp := fun vs H Q _ => ∃ (b : Addr) (many : Int), vs = [.ref b, .int many] ∧ BagOk H b ∧ 1 ≤ many ∧ many ≤ 1000 ∧ ∀ (H' : Hp) (v : Int), Drawn H b H' → 0 ≤ v → v < many → Q (.int v) H'
theorem ok_law_draw (T : Tp K mg) : FnOk P w K mg base CX0 2 T.a__law_draw T.d__law_draw ["_law_bag_here", "_law_many"] spDraw := by
  refine T.F__law_draw.ok sc_law_draw (fun vs H Q E h => ?_) (fun cdv A outer s H vs Q E hr h => ?_)
  · obtain ⟨b, many, rfl, _⟩ := h; rfl
  obtain ⟨b, many, rfl, hb, m1, m2, q⟩ := h
  refine ⟨_, PSs.nox (pss_cons (ps_if (pt_cmpR op_lt (pv 1) pe_int (nomark _)) (pss_one (ps_ret pe_int)) pss_nil)
  (pss_cons (ps_asg (pe_op op_add (pe_ix ix_list (pv 0) pe_int (fun _ _ => rfl)) pe_int) (pg_sub (pv 0) pe_int set_list))
  (Evl.pss_cut (ps_if (PW.pt (pw_and (pt_cmpR op_eq (pe_ix ix_list (pv 0) pe_int (fun _ _ => rfl)) pe_int (nomark _)) (pw_and (pt_cmpR op_eq (pe_ix ix_list (pv 0) pe_int (fun _ _ => rfl)) pe_int (nomark _)) (pw_and1 (pt_cmpR op_lt (pe_ix ix_list (pv 0) pe_int (fun _ _ => rfl)) (pe_callB call_len_seq (by rfl) T.m_len PySem.boot_len (pa_cons (pe_ix ix_list (pv 0) pe_int (fun _ _ => rfl)) pa_nil)) (nomark _)))))) (pss_cons (ps_set (i := 2) sc_law_draw.nd rfl (Or.inl rfl) (pe_ix ix_list (pe_ix ix_list (pv 0) pe_int (fun _ _ => rfl)) (pe_ix ix_list (pv 0) pe_int (fun _ _ => rfl)) (fun _ _ => rfl)))
  (pss_cons (ps_asg (pe_op op_add (pe_ix ix_list (pv 0) pe_int (fun _ _ => rfl)) pe_int) (pg_sub (pv 0) pe_int set_list))
  (pss_one (ps_if (pt_cmpR op_ge (pe_callB call_abs (by rfl) T.m_abs (by decide +kernel) (pa_cons (pv 2) pa_nil)) (pe_op op_pow pe_int pe_int) (nomark _)) (pss_one (ps_asg (pe_callB call_abs (by rfl) T.m_abs (by decide +kernel) (pa_cons (pv 2) pa_nil)) (pg_sub (pv 0) pe_int set_list))) (pss_cons (ps_asg (pe_op op_add (pe_op op_mul pe_int (pe_callB call_abs (by rfl) T.m_abs (by decide +kernel) (pa_cons (pv 2) pa_nil))) (pe_callTy call_int1 (by rfl) T.m_int boot_int (pa_cons (pe_cmpR op_lt (pv 2) pe_int (nomark _)) pa_nil))) (pg_sub (pv 0) pe_int set_list))
  (pss_one (ps_asg pe_int (pg_sub (pv 0) pe_int set_list)))))))) pss_nil)
  (pss_cons (ps_if (pt_cmpR op_gt (pe_ix ix_list (pv 0) pe_int (fun _ _ => rfl)) pe_int (nomark _)) (pss_cons (ps_set (i := 3) sc_law_draw.nd rfl (Or.inl rfl) (pe_op op_mod (pe_callTy call_int1 (by rfl) T.m_int boot_int (pa_cons (pe_ix ix_list (pv 0) pe_int (fun _ _ => rfl)) pa_nil)) (pv 1)))
  (pss_cons (ps_asg (pe_op op_fdiv (pe_ix ix_list (pv 0) pe_int (fun _ _ => rfl)) (pv 1)) (pg_sub (pv 0) pe_int set_list))
  (pss_one (ps_ret (pv 3))))) pss_nil)
  (pss_cons (ps_if (pt_cmpR op_gt (pe_ix ix_list (pv 0) pe_int (fun _ _ => rfl)) pe_int (nomark _)) (pss_one (ps_asg (pe_op op_sub (pe_ix ix_list (pv 0) pe_int (fun _ _ => rfl)) pe_int) (pg_sub (pv 0) pe_int set_list))) pss_nil)
  (pss_one (ps_ret (pe_op op_mod (pe_callTy call_int1 (by rfl) T.m_int boot_int (pa_cons (pe_call (ok_law_mixed T) (hr.mono (by decide)) (by rfl) T.g__law_mixed T.F__law_mixed.kp (b__law_mixed T) .nil pass0 (pa_cons (pe_ix ix_list (pv 0) pe_int (fun _ _ => rfl)) (pa_cons (pe_ix ix_list (pv 0) pe_int (fun _ _ => rfl)) pa_nil))) pa_nil)) (pv 1))))))))), ?_⟩
  refine ⟨_, rfl, _, _, rfl, rfl, _, rfl, ite2 (fun lt => ?_) (fun lt => ?_)⟩
  · exact q H 0 Drawn.refl (Int.le_refl _) (by omega)
  have lt : ¬ many < 2 := fun z => lt (decide_eq_true z)
  obtain ⟨c, ns, i1, i2, i3, i4, i5, B⟩ := hb
  have E0 : (era H b) b = none := era_self
  refine ⟨_, rfl, b, _, _, _, rfl, rfl, sq_l B.at_, rfl, _, _, rfl, rfl, _, rfl, b, _, _, 5, rfl, rfl, B.at_, rfl, ?_⟩
  have B1 : Bag (upd H b (bagL c i1 i2 i3 i4 (i5 + 1))) b c ns i1 i2 i3 i4 (i5 + 1) := B.set B.p1 B.p2 B.p4
  have e1 : Same (era H b) (upd H b (bagL c i1 i2 i3 i4 (i5 + 1))) := same_mut era_same E0
  show tSeq _ _ _ _ (upd H b (bagL c i1 i2 i3 i4 (i5 + 1)))
  generalize upd H b (bagL c i1 i2 i3 i4 (i5 + 1)) = H1 at B1 e1 ⊢
  refine ⟨fun σ H2 => ∃ y2 j1 j2 j3 j4 j5, σ = [some (.ref b), some (.int many), y2, none] ∧ Same (era H b) H2 ∧ Bag H2 b c ns j1 j2 j3 j4 j5, ?_, ?_⟩
  · have stay : ∃ y2 j1 j2 j3 j4 j5, [some (V.ref b), some (V.int many), none, none] = [some (V.ref b), some (V.int many), y2, none] ∧ Same (era H b) H1 ∧ Bag H1 b c ns j1 j2 j3 j4 j5 := ⟨_, _, _, _, _, _, rfl, e1, B1⟩
    refine ⟨_, rfl, b, _, _, _, rfl, rfl, sq_l B1.at_, rfl, rfl, _, rfl, ite2 (fun h2 => ?_) (fun _ => stay)⟩
    refine ⟨_, rfl, b, _, _, _, rfl, rfl, sq_l B1.at_, rfl, rfl, _, rfl, ite2 (fun h4 => ?_) (fun _ => stay)⟩
    refine ⟨_, rfl, b, _, _, _, rfl, rfl, sq_l B1.at_, rfl, _, rfl, b, _, _, _, rfl, rfl, sq_l B1.at_, rfl, c, _, rfl, .inl (sq_l B1.cells), _, _, rfl, rfl, _, rfl, ite2 (fun h1 => ?_) (fun _ => stay)⟩
    have h1 : i1 < (((ns.map V.int).length : Nat) : Int) := of_decide_eq_true h1
    rw [List.length_map] at h1
    have p1 := B1.p1
    obtain ⟨k, rfl⟩ : ∃ k : Nat, i1 = ((k : Nat) : Int) := ⟨i1.toNat, by omega⟩
    obtain ⟨x, hx⟩ : ∃ x, ns[k]? = some x := ⟨ns[k]'(by omega), List.getElem?_eq_getElem (by omega)⟩
    have hx2 : (ns.map V.int)[k]? = some (V.int x) := by rw [List.getElem?_map, hx]; rfl
    refine ⟨_, rfl, b, _, _, _, rfl, rfl, sq_l B1.at_, rfl, _, rfl, b, _, _, _, rfl, rfl, sq_l B1.at_, rfl, c, _, _, _, rfl, rfl, sq_l B1.cells, atI_nat hx2, ?_⟩
    refine ⟨_, rfl, b, _, _, _, rfl, rfl, sq_l B1.at_, rfl, _, _, rfl, rfl, _, rfl, b, _, _, 1, rfl, rfl, B1.at_, rfl, ?_⟩
    generalize hH : upd H1 b _ = H2
    have B2 : Bag H2 b c ns (((k : Nat) : Int) + 1) i2 i3 i4 (i5 + 1) := by
      rw [← hH]
      exact B1.set (by omega) B1.p2 B1.p4
    have e2 : Same (era H b) H2 := by
      rw [← hH]
      exact same_mut e1 E0
    clear hH
    refine ⟨_, rfl, _, rfl, _, _, rfl, rfl, ⟨by decide, by decide, by decide⟩, _, _, rfl, rfl, _, rfl, ite2 (fun big => ?_) (fun big => ?_)⟩
    · refine ⟨_, rfl, _, rfl, _, rfl, b, _, _, 2, rfl, rfl, B2.at_, rfl, some (.int x), ((k : Nat) : Int) + 1, (if x < 0 then -x else x), i3, i4, i5 + 1, rfl, same_mut e2 E0, ?_⟩
      exact B2.set (by omega) (by split <;> omega) B2.p4
    · refine ⟨_, rfl, _, rfl, _, _, rfl, rfl, .inl ⟨by decide, by decide⟩, _, rfl, _, _, rfl, rfl, .inr ⟨_, rfl, _, _, rfl, rfl, _, rfl, b, _, _, 3, rfl, rfl, B2.at_, rfl, ?_⟩⟩
      generalize hH : upd H2 b _ = H3
      have B3 : Bag H3 b c ns (((k : Nat) : Int) + 1) i2 (2 * (if x < 0 then -x else x) + (if decide (x < 0) = true then 1 else 0)) i4 (i5 + 1) := by
        rw [← hH]
        exact B2.set B2.p1 B2.p2 B2.p4
      have e3 : Same (era H b) H3 := by
        rw [← hH]
        exact same_mut e2 E0
      clear hH
      refine ⟨_, rfl, b, _, _, 4, rfl, rfl, B3.at_, rfl, some (.int x), ((k : Nat) : Int) + 1, i2, (2 * (if x < 0 then -x else x) + (if decide (x < 0) = true then 1 else 0)), 15, i5 + 1, rfl, same_mut e3 E0, ?_⟩
      exact B3.set B3.p1 B3.p2 (by decide)
  · rintro _ H2 ⟨y2, j1, j2, j3, j4, j5, rfl, e2, B2⟩
    refine ⟨_, rfl, b, _, _, _, rfl, rfl, sq_l B2.at_, rfl, _, _, rfl, rfl, _, rfl, ite2 (fun pos => ?_) (fun pos => ?_)⟩
    · have pos : 0 < j2 := of_decide_eq_true pos
      refine ⟨_, rfl, b, _, _, _, rfl, rfl, sq_l B2.at_, rfl, .inl ⟨_, rfl, _, rfl, _, _, rfl, rfl, (by show (0 : Int) < many; omega), ?_⟩⟩
      refine ⟨_, rfl, b, _, _, _, rfl, rfl, sq_l B2.at_, rfl, _, rfl, _, _, rfl, rfl, ⟨by omega, by omega⟩, _, rfl, b, _, _, 2, rfl, rfl, B2.at_, rfl, ?_⟩
      refine ⟨_, rfl, q _ _ (Drawn.mk_ (j1 := j1) (j2 := j2 / many) (j3 := j3) (j4 := j4) (j5 := j5) B (same_mut e2 E0) ?_) (Int.emod_nonneg _ (by omega)) (Int.emod_lt_of_pos _ (by omega))⟩
      exact B2.set B2.p1 (Int.ediv_nonneg B2.p2 (by omega)) B2.p4
    · refine ⟨_, rfl, b, _, _, _, rfl, rfl, sq_l B2.at_, rfl, _, _, rfl, rfl, _, rfl, ite2 (fun h4 => ?_) (fun h4 => ?_)⟩
      · have h4 : 0 < j4 := of_decide_eq_true h4
        refine ⟨_, rfl, b, _, _, _, rfl, rfl, sq_l B2.at_, rfl, _, _, rfl, rfl, _, rfl, b, _, _, 4, rfl, rfl, B2.at_, rfl, ?_⟩
        generalize hH : upd H2 b _ = H3
        have B3 : Bag H3 b c ns j1 j2 j3 (j4 - 1) j5 := by
          rw [← hH]
          exact B2.set B2.p1 B2.p2 (by omega)
        have e3 : Same (era H b) H3 := by
          rw [← hH]
          exact same_mut e2 E0
        clear hH
        refine ⟨_, rfl, b, _, _, _, rfl, rfl, sq_l B3.at_, rfl, _, rfl, b, _, _, _, rfl, rfl, sq_l B3.at_, rfl, _, _, rfl, fun x => .inl ⟨_, rfl, _, rfl, _, _, rfl, rfl, (by show (0 : Int) < many; omega), ?_⟩⟩
        exact q _ _ (Drawn.mk_ B e3 B3) (Int.emod_nonneg _ (by omega)) (Int.emod_lt_of_pos _ (by omega))
      · refine ⟨_, rfl, b, _, _, _, rfl, rfl, sq_l B2.at_, rfl, _, rfl, b, _, _, _, rfl, rfl, sq_l B2.at_, rfl, _, _, rfl, fun x => .inl ⟨_, rfl, _, rfl, _, _, rfl, rfl, (by show (0 : Int) < many; omega), ?_⟩⟩
        exact q _ _ (Drawn.mk_ B e2 B2) (Int.emod_nonneg _ (by omega)) (Int.emod_lt_of_pos _ (by omega))
end
end Sw
namespace Sw
open PySem PySem.Spec PyProof.Rows L2 Wr WM
section
variable {P : Program} {w : World} {K : PySem.W.Frag} {mg : Str → Option Value} {base : Heap}
/-! ### _law_bag -/
def spBag (K : PySem.W.Frag) : Sp := fun vs H Q _ => ∃ (p : Addr) (ns : List Int), vs = [.ref p] ∧ SqL K H p (ns.map V.int) ∧ ∀ H' b, Same H H' → H b = none → BagOk H' b → Q (.ref b) H'
theorem ok_law_bag (T : Tp K mg) : FnOk P w K mg base CX0 1 T.a__law_bag T.d__law_bag ["_law_script"] (spBag K) := by
  refine T.F__law_bag.ok sc_law_bag (fun vs H Q E h => ?_) (fun cdv A outer s H vs Q E hr h => ?_)
  · obtain ⟨p, ns, rfl, _⟩ := h; rfl
  obtain ⟨p, ns, rfl, hp, q⟩ := h
  refine ⟨_, PSs.nox (pss_one (ps_ret (pe_lst (pa_cons (pe_callTy call_list_of (by rfl) T.m_list (by decide +kernel) (pa_cons (pv 0) pa_nil)) (pa_cons pe_int (pa_cons pe_int (pa_cons (pe_op op_mod (pe_callTy call_int1 (by rfl) T.m_int boot_int (pa_cons (pe_callB (cr_sum rfl) (by rfl) T.m_sum (by decide +kernel) (pa_cons (pv 0) pa_nil)) pa_nil)) pe_int) (pa_cons pe_int (pa_cons pe_int pa_nil))))))))), ?_⟩
  refine ⟨_, rfl, p, _, rfl, .inl hp, fun c hc => ?_⟩
  have e1 := same_new (o := .lst (ns.map V.int)) hc
  have u1 : (upd H c (.lst (ns.map V.int))) c = some (.lst (ns.map V.int)) := upd_same
  generalize upd H c (.lst (ns.map V.int)) = H1 at e1 u1 ⊢
  refine ⟨_, rfl, p, ns, rfl, Same.seq e1 hp, .inl ⟨_, rfl, _, _, rfl, rfl, (by show (0 : Int) < 1000003; decide), (by show 6 ≤ sizeLine; decide), fun b hb => ?_⟩⟩
  have hb0 : H b = none := by
    cases e : H b with
    | none => rfl
    | some o => rw [e1 _ _ e] at hb; cases hb
  refine q _ b (e1.trans (same_new hb)) hb0 ⟨c, ns, 0, 0, _, 0, 0, upd_same, ?_, ne_of_none u1 hb, by decide, by decide, by decide⟩
  rw [upd_ne (ne_of_none u1 hb)]; exact u1
/-! ### _law_pick -/
def spPick : Sp := fun vs H Q _ => ∃ (b r : Addr) (xs : List V), vs = [.ref b, .ref r] ∧ BagOk H b ∧ H r = some (.lst xs) ∧ r ≠ b ∧ 1 ≤ xs.length ∧ xs.length ≤ 1000 ∧ ∀ H' x, Drawn H b H' → x ∈ xs → Q x H'
theorem ok_law_pick (T : Tp K mg) : FnOk P w K mg base CX0 3 T.a__law_pick T.d__law_pick ["_law_bag_here", "_law_row"] spPick := by
  refine T.F__law_pick.ok sc_law_pick (fun vs H Q E h => ?_) (fun cdv A outer s H vs Q E hr h => ?_)
  · obtain ⟨b, r, xs, rfl, _⟩ := h; rfl
  obtain ⟨b, r, xs, rfl, hb, hR, ne, l1, l2, q⟩ := h
  refine ⟨_, PSs.nox (pss_one (ps_ret (pe_ix ix_list (pv 1) (pe_call (ok_law_draw T) (hr.mono (by decide)) (by rfl) T.g__law_draw T.F__law_draw.kp (b__law_draw T) .nil pass0 (pa_cons (pv 0) (pa_cons (pe_callB call_len_seq (by rfl) T.m_len PySem.boot_len (pa_cons (pv 1) pa_nil)) pa_nil))) (fun _ _ => rfl)))), ?_⟩
  refine ⟨_, rfl, _, rfl, _, rfl, r, _, rfl, .inl (sq_l hR), b, _, rfl, hb, by omega, by omega, fun H' v d p0 p1 => ?_⟩
  obtain ⟨k, rfl⟩ : ∃ k : Nat, v = ((k : Nat) : Int) := ⟨v.toNat, by omega⟩
  have hk : k < xs.length := by omega
  refine ⟨r, _, _, _, rfl, rfl, sq_l (d.keep ne hR), atI_nat (List.getElem?_eq_getElem hk), ?_⟩
  exact q _ _ d (List.getElem_mem hk)
/-! ### _law_some -/
def spSome : Sp := fun vs H Q _ => ∃ (b r : Addr) (fl : Int) (ns : List Str), vs = [.ref b, .ref r, .int fl] ∧ BagOk H b ∧ H r = some (.lst (ns.map V.str)) ∧ r ≠ b ∧ ns.Nodup ∧ ns.length ≤ 20 ∧
  ∀ (H' : Hp) (p : Addr) (ms : List Str), Drawn H b H' → H' p = some (.lst (ms.map V.str)) → ms.Nodup → (∀ x ∈ ms, x ∈ ns) → Q (.ref p) H'
theorem ok_law_some (T : Tp K mg) : FnOk P w K mg base CX0 3 T.a__law_some T.d__law_some ["_law_bag_here", "_law_row", "_law_floor"] spSome := by
  refine T.F__law_some.ok sc_law_some (fun vs H Q E h => ?_) (fun cdv A outer s H vs Q E hr h => ?_)
  · obtain ⟨b, r, fl, ns, rfl, _⟩ := h; rfl
  obtain ⟨b, r, fl, ns, rfl, hb, hR, ne, nd, few, q⟩ := h
  refine ⟨_, PSs.nox (pss_cons (ps_setLc (i := 3) (own := [("_law_thing", 4)]) (te := (tVar 4)) (tt := (tTest (tOp _ (tCall _ [] E0 (tCons (tVar 0) (tCons (tC (.int 2)) tNil))) (tC (.int 1))))) rfl sc_law_some.nd rfl rfl (sw_true rfl rfl rfl (by decide +kernel)) (pi_list (pv 1)) (blkOk_by (own := [("_law_thing", 4)]) (N := N_law_some) (sc := defScope s_law_some) (by decide +kernel)) (fun _ _ _ _ _ => (pg_name (i := 4) sc_law_some.nd rfl (Or.inl rfl))) (fun _ _ _ _ _ => (pts_one (pt_cmpR op_eq (pe_call (ok_law_draw T) (hr.mono (by decide)) (by rfl) T.g__law_draw T.F__law_draw.kp (b__law_draw T) .nil pass0 (pa_cons (pv 0) (pa_cons pe_int pa_nil))) pe_int (nomark _)))) (fun _ _ _ _ _ => (pv 4)))
  (pss_cons (ps_for PassesOwn.never rfl (pi_list (pv 1)) (pg_name (i := 4) sc_law_some.nd rfl (Or.inl rfl)) (pss_one (ps_if (PW.pt (pw_and (pt_cmpR op_lt (pe_callB call_len_seq (by rfl) T.m_len PySem.boot_len (pa_cons (pv 3) pa_nil)) (pv 2) (nomark _)) (pw_and1 (pt_cmpR op_notIn_seq (pv 4) (pv 3) (by rfl))))) (pss_one (ps_expr (pe_bm PySem.F.plainAttrs_list PySem.F.slot_list_append PySem.F.type_list_append mt_append (pv 3) (pa_cons (pv 4) pa_nil)))) pss_nil)))
  (pss_one (ps_ret (pe_callB cr_sortedS (by rfl) T.m_sorted (by decide +kernel) (pa_cons (pv 3) pa_nil)))))), ?_⟩
  have lN : (ns.map V.str).length = ns.length := List.length_map _
  have hR0 : ∀ {H'}, Drawn H b H' → H' r = some (.lst (ns.map V.str)) := fun d => d.keep ne hR
  refine ⟨_, rfl, r, rfl, ⟨_, sq_l hR⟩, fun D hD => ?_⟩
  have nD := hb.ne hD
  refine lc_it (walk_list (xs := ns.map V.str)) (fun i H' => Drawn H b H' ∧ ∃ ms : List Str, H' D = some (.lst (ms.map V.str)) ∧ ms.Sublist (ns.take i)) ⟨Drawn.same (same_new hD), [], upd_same, List.nil_sublist _⟩ (fun i H' _ p => sq_l (hR0 p.1)) ?_ ?_
  · rintro i v H1 H1' hi ⟨e1, ms, h1, sb⟩ ⟨rfl, hv⟩
    obtain ⟨x, hx, rfl⟩ := names_at hv
    have tk := take_one hx
    refine ⟨rfl, _, rfl, b, _, rfl, e1.ok hb, by decide, by decide, fun H2 v d _ _ => ⟨rfl, _, rfl, ?_⟩⟩
    have e2 := e1.trans d
    have h2 := d.keep nD h1
    by_cases z : decide (V.int v = V.int 1) = true
    · rw [z]
      show if true = true then _ else _
      rw [if_pos rfl]
      refine ⟨_, rfl, _, h2, ?_, e2.mut hb hD, ms ++ [x], ?_, ?_⟩
      · refine small' ?_
        rw [List.length_map]
        have := sb.length_le
        rw [List.length_take] at this
        omega
      · rw [upd_same, List.map_append]; rfl
      · rw [tk]; exact sb.append (List.Sublist.refl _)
    · rw [show decide (V.int v = V.int 1) = false from Bool.eq_false_iff.mpr z]
      show if false = true then _ else _
      rw [if_neg (by decide)]
      exact ⟨e2, ms, h2, by rw [tk]; exact sb.trans (List.sublist_append_left _ _)⟩
  · rintro H1 ⟨e1, ms, h1, sb⟩
    rw [lN, List.take_length] at sb
    refine ⟨_, rfl, r, rfl, ⟨_, sq_l (hR0 e1)⟩, ?_⟩
    refine for_it (walk_list (xs := ns.map V.str)) (fun i σ H2 => (∃ y, σ = [some (.ref b), some (.ref r), some (.int fl), some (.ref D), y]) ∧ Drawn H b H2 ∧ ∃ ms : List Str, H2 D = some (.lst (ms.map V.str)) ∧ ms.Nodup ∧ ∀ x ∈ ms, x ∈ ns) ⟨⟨_, rfl⟩, e1, ms, h1, nd.sublist sb, fun x m => sb.subset m⟩ (fun i _ H' _ p => sq_l (hR0 p.2.1)) ?_ ?_
    · rintro i v _ H2 H2' hi ⟨⟨y, rfl⟩, e2, ms, h2, nd2, sub⟩ ⟨rfl, hv⟩
      obtain ⟨x, hx, rfl⟩ := names_at hv
      have stay : (∃ y, [some (V.ref b), some (V.ref r), some (V.int fl), some (V.ref D), some (V.str x)] = [some (V.ref b), some (V.ref r), some (V.int fl), some (V.ref D), y]) ∧ Drawn H b H2' ∧ ∃ ms : List Str, H2' D = some (.lst (ms.map V.str)) ∧ ms.Nodup ∧ ∀ x ∈ ms, x ∈ ns := ⟨⟨_, rfl⟩, e2, ms, h2, nd2, sub⟩
      refine ⟨_, rfl, D, _, rfl, .inl (sq_l h2), _, rfl, _, _, rfl, rfl, _, rfl, ite2 (fun lt => ?_) (fun _ => stay)⟩
      refine ⟨_, rfl, _, rfl, D, _, rfl, .inl (sq_l h2), rfl, strs_flat _, _, rfl, ite2 (fun nin => ?_) (fun _ => stay)⟩
      rw [inV_strs] at nin
      have nin : x ∉ ms := fun m => by
        rw [decide_eq_true m] at nin
        exact absurd nin (by decide)
      have l20 := nodup_le ms ns nd2 sub
      refine ⟨_, rfl, .inl ⟨rfl, _, sq_l h2⟩, _, rfl, D, _, _, rfl, rfl, h2, ?_, ⟨_, rfl⟩, e2.mut hb hD, ms ++ [x], ?_, ?_, ?_⟩
      · rw [List.length_map]; exact small' (by omega)
      · rw [upd_same, List.map_append]; rfl
      · exact List.nodup_append.mpr ⟨nd2, by simp, fun a ma c mc e => nin (by rw [← List.mem_singleton.mp mc, ← e]; exact ma)⟩
      · intro a ma
        exact (List.mem_append.mp ma).elim (sub a) fun m => by rw [List.mem_singleton.mp m]; exact List.mem_of_getElem? hx
    · rintro σ H2 ⟨⟨y, rfl⟩, e2, ms, h2, nd2, sub⟩
      have l20 := nodup_le ms ns nd2 sub
      refine ⟨_, rfl, D, ms, rfl, sq_l h2, by omega, fun ys p pm _ hp => ?_⟩
      exact q _ p ys (e2.then_ (same_new hp)) upd_same (pm.nodup_iff.mpr nd2) fun x m => sub x (pm.mem_iff.mp m)
end
end Sw
namespace Sw
open PySem PySem.Spec PyProof.Rows L2 Wr WM
section
variable {P : Program} {w : World} {K : PySem.W.Frag} {mg : Str → Option Value} {base : Heap}
/-! ### _law_p2_days -/
def spDays : Sp := fun vs H Q _ => ∃ (b l : Addr) (ns : List Str), vs = [.ref b, .ref l] ∧ BagOk H b ∧ H l = some (.lst (ns.map V.str)) ∧ l ≠ b ∧ (emp :: ns).Nodup ∧ ns.length ≤ 20 ∧
  ∀ (H' : Hp) (d : Addr) (h : Str → Int), Drawn H b H' → H' d = some (dS (emp :: ns) h) → h emp = 0 → (∀ x ∈ ns, -(10 ^ 32) ≤ h x ∧ h x ≤ 10 ^ 32) → Q (.ref d) H'
theorem ok_law_p2_days (T : Tp K mg) : FnOk P w K mg base CX0 4 T.a__law_p2_days T.d__law_p2_days ["_law_bag_here", "_law_lots"] spDays := by
  refine T.F__law_p2_days.ok sc_law_p2_days (fun vs H Q E h => ?_) (fun cdv A outer s H vs Q E hr h => ?_)
  · obtain ⟨b, l, ns, rfl, _⟩ := h; rfl
  obtain ⟨b, l, ns, rfl, hb, hl, ne, nd, few, q⟩ := h
  refine ⟨_, PSs.nox (pss_cons (ps_set (i := 2) sc_law_p2_days.nd rfl (Or.inl rfl) (pe_call (ok_law_pick T) (hr.mono (by decide)) (by rfl) T.g__law_pick T.F__law_pick.kp (b__law_pick T) .nil pass0 (pa_cons (pv 0) (pa_cons (pe_lst (pa_cons pe_int (pa_cons pe_int (pa_cons pe_int (pa_cons pe_int (pa_cons pe_int (pa_cons pe_int (pa_cons pe_int (pa_cons (pe_op op_pow pe_int pe_int) pa_nil))))))))) pa_nil))))
  (pss_cons (ps_set (i := 3) sc_law_p2_days.nd rfl (Or.inl rfl) pe_dnewK)
  (pss_cons (ps_dput (hu_of hr) (pv 3) pe_str pe_int rfl)
  (pss_cons (ps_for PassesOwn.never rfl (pi_list (pv 1)) (pg_name (i := 4) sc_law_p2_days.nd rfl (Or.inl rfl)) (pss_one (ps_dput (hu_of hr) (pv 3) (pv 4) (pe_op op_mul (pv 2) (pe_op op_sub (pe_call (ok_law_draw T) (hr.mono (by decide)) (by rfl) T.g__law_draw T.F__law_draw.kp (b__law_draw T) .nil pass0 (pa_cons (pv 0) (pa_cons pe_int pa_nil))) pe_int)) rfl)))
  (pss_one (ps_ret (pv 3))))))), ?_⟩
  refine ⟨_, rfl, _, _, rfl, rfl, ⟨by decide, by decide, by decide⟩, (by show 8 ≤ sizeLine; decide), fun p hp => ?_⟩
  have e1 := Drawn.same (b := b) (same_new (o := .lst [.int 1, .int 1, .int 1, .int 1, .int 1, .int 1, .int 1, .int (10 ^ 30)]) hp)
  refine ⟨b, p, _, rfl, e1.ok hb, upd_same, hb.ne hp, (by show 1 ≤ 8; decide), (by show 8 ≤ 1000; decide), fun H1 x d1 mx => ?_⟩
  have e2 := e1.trans d1
  have hx : x = .int 1 ∨ x = .int (10 ^ 30) := by
    have mx : x ∈ [V.int 1, .int 1, .int 1, .int 1, .int 1, .int 1, .int 1, .int (10 ^ 30)] := mx
    simp only [List.mem_cons, List.not_mem_nil, or_false] at mx
    rcases mx with h | h | h | h | h | h | h | h
    all_goals first | exact .inl h | exact .inr h
  obtain ⟨sc, rfl, s1, s2⟩ : ∃ sc : Int, x = .int sc ∧ 1 ≤ sc ∧ sc ≤ 10 ^ 30 := by
    rcases hx with h | h
    · exact ⟨1, h, by decide, by decide⟩
    · exact ⟨10 ^ 30, h, by decide, by decide⟩
  intro d hd1
  have hd := e2.back hb hd1
  have nD := hb.ne hd
  have e3 := e2.then_ (same_new (o := .dK []) hd1)
  have u0 : (upd H1 d (.dK [])) d = some (dS [] fun _ => 0) := upd_same
  generalize upd H1 d (.dK []) = H2 at e3 u0 ⊢
  have put := dS_put u0 emp 0 (by show 0 < 100000; decide)
  refine ⟨_, rfl, d, _, rfl, put, ?_⟩
  have e4 := e3.mut (o := dS (addN [] emp) (setF (fun _ => 0) emp 0)) hb hd
  have u1 : (upd H2 d (dS (addN [] emp) (setF (fun _ => 0) emp 0))) d = some (dS [emp] fun _ => 0) := by
    rw [upd_same]
    refine congrArg (fun f => some (dS [emp] f)) (funext fun x => ?_)
    unfold setF
    split <;> rfl
  generalize upd H2 d (dS (addN [] emp) (setF (fun _ => 0) emp 0)) = H3 at e4 u1 ⊢
  refine ⟨_, rfl, l, rfl, ⟨_, sq_l (e4.keep ne hl)⟩, ?_⟩
  refine for_it (walk_list (xs := ns.map V.str)) (fun i σ H2 => (∃ y, σ = [some (.ref b), some (.ref l), some (.int sc), some (.ref d), y]) ∧ Drawn H b H2 ∧ ∃ h : Str → Int, H2 d = some (dS (emp :: ns.take i) h) ∧ h emp = 0 ∧ ∀ x ∈ ns.take i, -(10 ^ 32) ≤ h x ∧ h x ≤ 10 ^ 32)
    ⟨⟨none, rfl⟩, e4, fun _ => 0, u1, rfl, fun _ m => absurd m List.not_mem_nil⟩ (fun _ _ _ _ p => sq_l (p.2.1.keep ne hl)) ?_ ?_
  · rintro i v _ H4 H4' hi ⟨⟨y, rfl⟩, k1, h, k2, k3, k4⟩ ⟨rfl, hv⟩
    obtain ⟨z, hz, rfl⟩ := names_at hv
    refine ⟨_, rfl, _, rfl, b, _, rfl, k1.ok hb, by decide, by decide, fun H5 r d5 r0 r1 => ⟨_, _, rfl, rfl, _, _, rfl, rfl, .inr ⟨by omega, by omega⟩, ?_⟩⟩
    have k5 := k1.trans d5
    have k6 := d5.keep nD k2
    have put := dS_put k6 z (sc * (r - 10)) (by rw [List.length_cons, List.length_take]; omega)
    have tk := take_one hz
    have zn : z ∉ emp :: ns.take i := by
      have nd2 : (emp :: ns.take (i + 1)).Nodup := List.Nodup.sublist (List.Sublist.cons_cons emp (List.take_sublist (i + 1) ns)) nd
      rw [tk] at nd2
      intro m
      rcases List.mem_cons.mp m with rfl | m
      · exact (List.nodup_cons.mp nd2).1 (List.mem_append_right _ (List.mem_singleton.mpr rfl))
      · exact (List.nodup_append.mp (List.nodup_cons.mp nd2).2).2.2 z m z (List.mem_singleton.mpr rfl) rfl
    refine ⟨_, rfl, _, rfl, d, _, rfl, put, ⟨_, rfl⟩, k5.mut hb hd, setF h z (sc * (r - 10)), ?_, ?_, fun x m => ?_⟩
    · rw [upd_same, tk]
      unfold addN
      rw [if_neg zn]
      rfl
    · unfold setF
      rw [if_neg fun (e : emp = z) => zn (by rw [← e]; exact List.mem_cons_self)]
      exact k3
    · unfold setF
      by_cases e : x = z
      · rw [if_pos e]
        have q1 : sc * (-10) ≤ sc * (r - 10) := Int.mul_le_mul_of_nonneg_left (by omega) (by omega)
        have q2 : sc * (r - 10) ≤ sc * 29 := Int.mul_le_mul_of_nonneg_left (by omega) (by omega)
        omega
      · rw [if_neg e]
        rw [tk] at m
        rcases List.mem_append.mp m with m | m
        · exact k4 x m
        · exact absurd (List.mem_singleton.mp m) e
  · rintro σ H4 ⟨⟨y, rfl⟩, k1, h, k2, k3, k4⟩
    rw [List.length_map, List.take_length] at k2 k4
    exact ⟨_, rfl, q H4 d h k1 k2 k3 k4⟩
end
end Sw
namespace Sw
open PySem PySem.Spec PyProof.Rows L2 Wr WM
section
variable {P : Program} {w : World} {K : PySem.W.Frag} {mg : Str → Option Value} {base : Heap}
theorem names_mem {ns : List Str} {x : V} (h : x ∈ ns.map V.str) : ∃ z ∈ ns, x = .str z := by
  obtain ⟨z, m, e⟩ := List.mem_map.mp h
  exact ⟨z, m, e.symm⟩
theorem kvs_keys (N : List Str) (h : Str → Int) : (kvs kS N h).map (·.1) = N.map Sum.inr := by
  unfold kvs
  rw [List.map_map]
  rfl
/-! ### _law_p2_tie -/
/-- a tie between names of days -/
structure Tied (N : List Str) (h : Str → Int) (t : Tie) : Prop where
  a : t.1 ∈ N
  b : t.2.1 ∈ N
  ne : t.1 ≠ t.2.1
  lo : h t.2.1 - h t.1 ≤ t.2.2
  hi : t.2.2 ≤ h t.2.1 - h t.1 + 10
def spPTie : Sp := fun vs H Q _ => ∃ (b d : Addr) (N : List Str) (h : Str → Int) (sl : Int), vs = [.ref b, .ref d, .int sl] ∧ BagOk H b ∧ H d = some (dS N h) ∧ N.Nodup ∧ 2 ≤ N.length ∧ N.length ≤ 21 ∧ 0 ≤ sl ∧ sl ≤ 8 ∧
  ∀ (H' : Hp) (p : Addr) (t : Tie), Drawn H b H' → H' p = some (tieO t) → Tied N h t → t.2.2 = h t.2.1 - h t.1 + sl → Q (.ref p) H'
theorem ok_law_p2_tie (T : Tp K mg) : FnOk P w K mg base CX0 4 T.a__law_p2_tie T.d__law_p2_tie ["_law_bag_here", "_law_days", "_law_slack"] spPTie := by
  refine T.F__law_p2_tie.ok sc_law_p2_tie (fun vs H Q E h => ?_) (fun cdv A outer s H vs Q E hr h => ?_)
  · obtain ⟨b, d, N, h, sl, rfl, _⟩ := h; rfl
  obtain ⟨b, d, N, h, sl, rfl, hb, hd, nd, l2, few, s0, s1, q⟩ := h
  refine ⟨_, PSs.nox (pss_cons (ps_set (i := 3) sc_law_p2_tie.nd rfl (Or.inr rfl) (pe_call (ok_law_pick T) (hr.mono (by decide)) (by rfl) T.g__law_pick T.F__law_pick.kp (b__law_pick T) .nil pass0 (pa_cons (pv 0) (pa_cons (pe_callB (call_sortedD rfl) (by rfl) T.m_sorted (by decide +kernel) (pa_cons (pv 1) pa_nil)) pa_nil))))
  (pss_cons (ps_set (i := 4) sc_law_p2_tie.nd rfl (Or.inl rfl) (pe_call (ok_law_pick T) (hr.mono (by decide)) (by rfl) T.g__law_pick T.F__law_pick.kp (b__law_pick T) .nil pass0 (pa_cons (pv 0) (pa_cons (pe_lc (own := [("_law_name_here", 5)]) (te := (tVar 5)) (tt := (tTest (tOp _ (tVar 5) (tVar 3)))) rfl sc_law_p2_tie.nd (pi_list (pe_callB (call_sortedD rfl) (by rfl) T.m_sorted (by decide +kernel) (pa_cons (pv 1) pa_nil))) (blkOk_by (own := [("_law_name_here", 5)]) (N := N_law_p2_tie) (sc := defScope s_law_p2_tie) (by decide +kernel)) (fun _ _ _ _ _ => (pg_name (i := 5) sc_law_p2_tie.nd rfl (Or.inl rfl))) (fun _ _ _ _ _ => (pts_one (pt_cmpR op_ne (pv 5) (pv 3) (nomark _)))) (fun _ _ _ _ _ => (pv 5))) pa_nil))))
  (pss_one (ps_ret (pe_tup (pa_cons (pv 3) (pa_cons (pv 4) (pa_cons (pe_op op_add (pe_op op_sub (pe_dget (hu_of hr) (pv 1) (pv 4) (fun _ _ => rfl)) (pe_dget (hu_of hr) (pv 1) (pv 3) (fun _ _ => rfl))) (pv 2)) pa_nil)))))))), ?_⟩
  have dB : d ≠ b := fun e => by
    obtain ⟨xs, z⟩ := hb.is
    rw [e, z] at hd
    cases hd
  refine ⟨_, rfl, _, rfl, d, _, N, rfl, .of hd, kvs_keys N h, by omega, fun ys p pm _ hp => ?_⟩
  have e1 := Drawn.same (b := b) (same_new (o := .lst (ys.map V.str)) hp)
  have ly : (ys.map V.str).length = N.length := by rw [List.length_map, pm.length_eq]
  refine ⟨b, p, _, rfl, e1.ok hb, upd_same, hb.ne hp, by omega, by omega, fun H1 x d1 mx => ?_⟩
  obtain ⟨fs, mf, rfl⟩ := names_mem mx
  have e2 := e1.trans d1
  have mf2 := pm.mem_iff.mp mf
  have hd2 := e2.keep dB hd
  refine ⟨_, rfl, _, rfl, d, _, N, rfl, .of hd2, kvs_keys N h, by omega, fun zs p2 pm2 _ hp2 => ?_⟩
  have e3 := e2.then_ (same_new (o := .lst (zs.map V.str)) hp2)
  have u2 : (upd H1 p2 (.lst (zs.map V.str))) p2 = some (.lst (zs.map V.str)) := upd_same
  have hp2' : p2 ≠ b := (e2.ok hb).ne hp2
  generalize upd H1 p2 (.lst (zs.map V.str)) = H2 at e3 u2 ⊢
  have lz : zs.length = N.length := pm2.length_eq
  refine ⟨p2, rfl, ⟨_, sq_l u2⟩, fun D hD => ?_⟩
  refine lc_keep (walk_list (xs := zs.map V.str)) rfl (fun v => !decide (v = .str fs)) hD (fun H' e => sq_l (e _ _ u2)) (by rw [List.length_map]; omega) (fun _ => rfl) (fun _ => rfl) ?_ ?_
  · intro j x H3 hx e R hR
    obtain ⟨z, hz, rfl⟩ := names_at hx
    exact ⟨_, rfl, _, rfl, rfl, _, rfl, hR H3 (Same.refl _)⟩
  · intro H3 e hD3
    have e4 := e3.then_ e
    have nD : D ≠ b := (e3.ok hb).ne hD
    have mem : ∀ v, v ∈ (zs.map V.str).filter (fun v => !decide (v = .str fs)) → ∃ z, v = .str z ∧ z ∈ N ∧ z ≠ fs := fun v m => by
      obtain ⟨m1, m2⟩ := List.mem_filter.mp m
      obtain ⟨z, mz, rfl⟩ := names_mem m1
      refine ⟨z, rfl, pm2.mem_iff.mp mz, fun e => ?_⟩
      rw [e, decide_eq_true rfl] at m2
      cases m2
    have le : ((zs.map V.str).filter (fun v => !decide (v = .str fs))).length ≤ 1000 := by
      refine Nat.le_trans (List.length_filter_le _ _) ?_
      rw [List.length_map]
      omega
    have pos : 1 ≤ ((zs.map V.str).filter (fun v => !decide (v = .str fs))).length := by
      obtain ⟨z, mz, nz⟩ : ∃ z ∈ zs, z ≠ fs := by
        by_cases all : ∀ z ∈ zs, z = fs
        · have := nodup_le zs [fs] (pm2.nodup_iff.mpr nd) fun z m => List.mem_singleton.mpr (all z m)
          rw [List.length_singleton] at this
          omega
        · have ⟨z, hz⟩ := Classical.not_forall.mp all
          have ⟨m, n⟩ := Classical.not_imp.mp hz
          exact ⟨z, m, n⟩
      refine List.length_pos_of_mem (a := V.str z) (List.mem_filter.mpr ⟨List.mem_map.mpr ⟨z, mz, rfl⟩, ?_⟩)
      rw [decide_eq_false fun e => nz (V.str.inj e)]
      rfl
    refine ⟨b, D, _, rfl, e4.ok hb, hD3, nD, pos, le, fun H4 x d4 mx => ?_⟩
    obtain ⟨sn, rfl, mn, nn⟩ := mem x mx
    have e5 := e4.trans d4
    have hd5 := e5.keep dB hd
    refine ⟨_, rfl, _, rfl, _, rfl, _, rfl, d, _, rfl, dS_has hd5 mn, _, rfl, _, rfl, d, _, rfl, dS_has hd5 mf2, _, _, rfl, rfl, _, rfl, _, _, rfl, rfl, sz3, fun t ht => ?_⟩
    refine q _ t (fs, sn, h sn - h fs + sl) (e5.then_ (same_new ht)) upd_same ⟨mf2, mn, fun e => nn e.symm, ?_, ?_⟩ rfl
    · show h sn - h fs ≤ h sn - h fs + sl
      omega
    · show h sn - h fs + sl ≤ h sn - h fs + 10
      omega
end
end Sw
namespace Sw
open PySem PySem.Spec PyProof.Rows L2 Wr WM
section
variable {P : Program} {w : World} {K : PySem.W.Frag} {mg : Str → Option Value} {base : Heap}
theorem BagOk.neO {H : Hp} {b a : Addr} {o : HO} (hb : BagOk H b) (h : H a = some o) (n : ∀ xs, o ≠ .lst xs) : a ≠ b := fun e => by
  obtain ⟨xs, z⟩ := hb.is
  rw [e, z] at h
  exact n xs (Option.some.inj h).symm
theorem Drawn.ties {H H' : Hp} {b : Addr} {L : TL} (d : Drawn H b H') (hb : BagOk H b) (h : TiesIn H L) : TiesIn H' L := fun q m => d.keep (hb.neO (h q m) fun _ z => by cases z) (h q m)
theorem filt_ne (ls : List Str) (x : Str) : (ls.map V.str).filter (fun v => !decide (v = .str x)) = (ls.filter fun z => !decide (z = x)).map V.str := by
  rw [List.filter_map]
  congr 1
  refine List.filter_congr fun z _ => ?_
  show (!decide (V.str z = V.str x)) = _
  by_cases e : z = x
  · rw [decide_eq_true e, decide_eq_true (congrArg V.str e)]
  · rw [decide_eq_false e, decide_eq_false fun q => e (V.str.inj q)]
theorem filt_ne_len : ∀ (ls : List Str) (x : Str), ls.Nodup → x ∈ ls → (ls.filter fun z => !decide (z = x)).length + 1 = ls.length
  | [], x, _, m => nomatch m
  | y :: ls, x, nd, m => by
    have ⟨n1, n2⟩ := List.nodup_cons.mp nd
    by_cases e : y = x
    · subst e
      rw [List.filter_cons_of_neg (by rw [decide_eq_true rfl]; decide), List.length_cons]
      congr 2
      refine List.filter_eq_self.mpr fun z mz => ?_
      rw [decide_eq_false fun (q : z = y) => n1 (q ▸ mz)]
      rfl
    · rw [List.filter_cons_of_pos (by rw [decide_eq_false e]; rfl), List.length_cons, List.length_cons]
      have m2 := (List.mem_cons.mp m).resolve_left fun q => e q.symm
      rw [filt_ne_len ls x n2 m2]
/-! ### _law_p2_chain -/
def spPChain : Sp := fun vs H Q _ => ∃ (b d : Addr) (N : List Str) (h : Str → Int), vs = [.ref b, .ref d] ∧ BagOk H b ∧ H d = some (dS N h) ∧ N.Nodup ∧ 2 ≤ N.length ∧ N.length ≤ 21 ∧
  ∀ (H' : Hp) (p : Addr) (L : TL), Drawn H b H' → H' p = some (.lst (rf L)) → TiesIn H' L → L.length ≤ N.length → (∀ t ∈ tv L, Tied N h t) → Q (.ref p) H'
theorem ok_law_p2_chain (T : Tp K mg) : FnOk P w K mg base CX0 4 T.a__law_p2_chain T.d__law_p2_chain ["_law_bag_here", "_law_days"] spPChain := by
  refine T.F__law_p2_chain.ok sc_law_p2_chain (fun vs H Q E h => ?_) (fun cdv A outer s H vs Q E hr h => ?_)
  · obtain ⟨b, d, N, h, rfl, _⟩ := h; rfl
  obtain ⟨b, d, N, h, rfl, hb, hd, nd, l2, few, q⟩ := h
  refine ⟨_, PSs.nox (pss_cons (ps_set (i := 2) sc_law_p2_chain.nd rfl (Or.inl rfl) (pe_callB (call_sortedD rfl) (by rfl) T.m_sorted (by decide +kernel) (pa_cons (pv 1) pa_nil)))
  (pss_cons (ps_set (i := 3) sc_law_p2_chain.nd rfl (Or.inr rfl) (pe_call (ok_law_pick T) (hr.mono (by decide)) (by rfl) T.g__law_pick T.F__law_pick.kp (b__law_pick T) .nil pass0 (pa_cons (pv 0) (pa_cons (pv 2) pa_nil))))
  (pss_cons (ps_set (i := 4) sc_law_p2_chain.nd rfl (Or.inl rfl) (pe_lst pa_nil))
  (pss_cons (ps_for PassesOwn.never rfl (pi_range1 (by rfl) T.m_range (pa_cons (pe_op op_sub (pe_callB call_lenD (by rfl) T.m_len PySem.boot_len (pa_cons (pv 1) pa_nil)) pe_int) pa_nil)) (pg_name (i := 5) sc_law_p2_chain.nd rfl (Or.inl rfl)) (pss_cons (ps_setLc (i := 2) (own := [("_law_one", 6)]) (te := (tVar 6)) (tt := (tTest (tOp _ (tVar 6) (tVar 3)))) rfl sc_law_p2_chain.nd rfl rfl (sw_true rfl rfl rfl (by decide +kernel)) (pi_list (pv 2)) (blkOk_by (own := [("_law_one", 6)]) (N := N_law_p2_chain) (sc := defScope s_law_p2_chain) (by decide +kernel)) (fun _ _ _ _ _ => (pg_name (i := 6) sc_law_p2_chain.nd rfl (Or.inl rfl))) (fun _ _ _ _ _ => (pts_one (pt_cmpR op_ne (pv 6) (pv 3) (nomark _)))) (fun _ _ _ _ _ => (pv 6)))
  (pss_cons (ps_set (i := 7) sc_law_p2_chain.nd rfl (Or.inl rfl) (pe_call (ok_law_pick T) (hr.mono (by decide)) (by rfl) T.g__law_pick T.F__law_pick.kp (b__law_pick T) .nil pass0 (pa_cons (pv 0) (pa_cons (pv 2) pa_nil))))
  (pss_cons (ps_expr (pe_bm PySem.F.plainAttrs_list PySem.F.slot_list_append PySem.F.type_list_append mt_append (pv 4) (pa_cons (pe_tup (pa_cons (pv 3) (pa_cons (pv 7) (pa_cons (pe_op op_add (pe_op op_sub (pe_dget (hu_of hr) (pv 1) (pv 7) (fun _ _ => rfl)) (pe_dget (hu_of hr) (pv 1) (pv 3) (fun _ _ => rfl))) (pe_call (ok_law_draw T) (hr.mono (by decide)) (by rfl) T.g__law_draw T.F__law_draw.kp (b__law_draw T) .nil pass0 (pa_cons (pv 0) (pa_cons pe_int pa_nil)))) pa_nil)))) pa_nil)))
  (pss_one (ps_set (i := 3) sc_law_p2_chain.nd rfl (Or.inr rfl) (pv 7)))))))
  (pss_one (ps_ret (pe_ifExp (pt_cmpR op_eq (pe_call (ok_law_draw T) (hr.mono (by decide)) (by rfl) T.g__law_draw T.F__law_draw.kp (b__law_draw T) .nil pass0 (pa_cons (pv 0) (pa_cons pe_int pa_nil))) pe_int (nomark _)) (pe_revL (pv 4)) (pv 4)))))))), ?_⟩
  have dB : d ≠ b := hb.neO hd fun _ z => by cases z
  refine ⟨_, rfl, d, _, N, rfl, .of hd, kvs_keys N h, by omega, fun ys p pm _ hp => ?_⟩
  have e1 := Drawn.same (b := b) (same_new (o := .lst (ys.map V.str)) hp)
  have ly : (ys.map V.str).length = N.length := by rw [List.length_map, pm.length_eq]
  have pB := hb.ne hp
  refine ⟨_, rfl, _, rfl, b, p, _, rfl, e1.ok hb, upd_same, pB, by omega, by omega, fun H1 x d1 mx => ?_⟩
  obtain ⟨nm, mn, rfl⟩ := names_mem mx
  have e2 := e1.trans d1
  have hp1 : H1 p = some (.lst (ys.map V.str)) := d1.keep pB upd_same
  refine ⟨sz0, fun D hD1 => ?_⟩
  have hD := e2.back hb hD1
  have nD := hb.ne hD
  have e3 := e2.then_ (same_new (o := .lst []) hD1)
  have hp2 : (upd H1 D (.lst [])) p = some (.lst (ys.map V.str)) := same_new hD1 _ _ hp1
  have u2 : (upd H1 D (.lst [])) D = some (.lst []) := upd_same
  generalize upd H1 D (.lst []) = H2 at e3 u2 hp2 ⊢
  have lk : (kvs kS N h).length = N.length := kvs_len _ _ _
  refine ⟨_, rfl, d, _, rfl, e3.keep dB hd, _, _, rfl, rfl, (((kvs kS N h).length : Nat) : Int) - 1, rfl, by rw [lk]; omega, by rw [lk]; omega, ?_⟩
  rw [show ((((kvs kS N h).length : Nat) : Int) - 1).toNat = N.length - 1 by rw [lk]; omega]
  refine for_it (walk_range (lo := 0) (n := N.length - 1)) (fun k σ H3 => ∃ pl nm y5 y6 y7, ∃ ls : List Str, ∃ L : TL, σ = [some (.ref b), some (.ref d), some (.ref pl), some (.str nm), some (.ref D), y5, y6, y7] ∧ Drawn H b H3 ∧ pl ≠ b ∧ H3 pl = some (.lst (ls.map V.str)) ∧ ls.Nodup ∧ (∀ x ∈ ls, x ∈ N) ∧ nm ∈ ls ∧ ls.length + k = N.length ∧
    H3 D = some (.lst (rf L)) ∧ TiesIn H3 L ∧ L.length = k ∧ pl ≠ D ∧ ∀ t ∈ tv L, Tied N h t) ⟨p, nm, none, none, none, ys, [], rfl, e3, pB, hp2, pm.nodup_iff.mpr nd, fun x m => pm.mem_iff.mp m, mn, by rw [← ly, List.length_map]; rfl, u2, TiesIn.nil, rfl, ne_of_none hp1 hD1, fun _ m => nomatch m⟩ (fun _ _ _ _ _ => trivial) ?_ ?_
  · rintro k v _ H3 H3' hk ⟨pl, nm, y5, y6, y7, ls, L, rfl, k1, k2, k3, k4, k5, k6, k7, k8, k9, k10, k11, k12⟩ ⟨rfl, rfl⟩
    refine ⟨_, rfl, pl, rfl, ⟨_, sq_l k3⟩, fun D2 hD2 => ?_⟩
    refine lc_keep (walk_list (xs := ls.map V.str)) rfl (fun v => !decide (v = .str nm)) hD2 (fun H' e => sq_l (e _ _ k3)) (by rw [List.length_map]; omega) (fun _ => rfl) (fun _ => rfl) ?_ ?_
    · intro j x H3 hx e R hR
      obtain ⟨z, hz, rfl⟩ := names_at hx
      exact ⟨_, rfl, _, rfl, rfl, _, rfl, hR H3 (Same.refl _)⟩
    intro H4 e hD4
    have nD2 := (k1.ok hb).ne hD2
    have nDD : D2 ≠ D := (ne_of_none k8 hD2).symm
    rw [filt_ne] at hD4
    have fl := filt_ne_len ls nm k4 k6
    have nd4 : (ls.filter fun z => !decide (z = nm)).Nodup := k4.sublist List.filter_sublist
    have in4 : ∀ x ∈ ls.filter (fun z => !decide (z = nm)), x ∈ N ∧ x ≠ nm := fun x m => by
      obtain ⟨m1, m2⟩ := List.mem_filter.mp m
      exact ⟨k5 x m1, fun e => by rw [e, decide_eq_true rfl] at m2; cases m2⟩
    have l4 := k1.then_ e
    generalize (ls.filter fun z => !decide (z = nm)) = ls4 at hD4 fl nd4 in4
    have m8 := e _ _ k8
    have m9 := k9.mono e
    refine ⟨_, rfl, _, rfl, b, D2, _, rfl, l4.ok hb, hD4, nD2, by rw [List.length_map]; omega, by rw [List.length_map]; omega, fun H5 x d5 mx => ?_⟩
    obtain ⟨sn, ms, rfl⟩ := names_mem mx
    have l5 := l4.trans d5
    have hb4 := l4.ok hb
    have ⟨sN, sne⟩ := in4 sn ms
    have hD5 := d5.keep nD2 hD4
    have m8 := d5.keep nD m8
    have m9 := d5.ties hb4 m9
    have hd5 := l5.keep dB hd
    refine ⟨_, rfl, .inl ⟨rfl, _, sq_l m8⟩, _, rfl, _, rfl, _, rfl, _, rfl, d, _, rfl, dS_has hd5 sN, _, rfl, _, rfl, d, _, rfl, dS_has hd5 (k5 _ k6), _, _, rfl, rfl, _, rfl, b, _, rfl, l5.ok hb, by decide, by decide, fun H6 r d6 r0 r1 => ⟨_, _, rfl, rfl, sz3, fun t ht => ?_⟩⟩
    have hb5 := l5.ok hb
    have l6 := l5.trans d6
    have hD6 := d6.keep nD2 hD5
    have m8 := d6.keep nD m8
    have m9 := d6.ties hb5 m9
    have n6 := same_new (o := .tup [.str nm, .str sn, .int (h sn - h nm + r)]) ht
    have l7 := l6.then_ n6
    have m8 := n6 _ _ m8
    have m9 := m9.mono n6
    have u7 : (upd H6 t (.tup [.str nm, .str sn, .int (h sn - h nm + r)])) t = some (tieO (nm, sn, h sn - h nm + r)) := upd_same
    have hD7 := n6 _ _ hD6
    generalize upd H6 t (.tup [.str nm, .str sn, .int (h sn - h nm + r)]) = H7 at l7 m8 m9 u7 hD7 ⊢
    have tD : t ≠ D := ne_of u7 m8 (fun z => by cases z)
    refine ⟨D, _, _, rfl, rfl, m8, small' (by rw [rf_len]; omega), _, rfl, D2, sn, _, _, _, ls4, L ++ [(t, (nm, sn, h sn - h nm + r))], rfl, l7.mut hb hD, nD2, by rw [upd_ne nDD]; exact hD7, nd4, fun x m => (in4 x m).1, ms, by omega, ?_, ?_, ?_, nDD, ?_⟩
    · rw [upd_same, rf_app]; rfl
    · intro q mq
      rcases List.mem_append.mp mq with m | m
      · have z := m9 q m
        rw [upd_ne (ne_of z m8 (fun z => by cases z))]
        exact z
      · rw [List.mem_singleton.mp m, upd_ne tD]
        exact u7
    · rw [List.length_append, k10]; rfl
    · intro u mu
      rw [tv_app] at mu
      rcases List.mem_append.mp mu with m | m
      · exact k12 u m
      · rw [List.mem_singleton.mp m]
        refine ⟨k5 _ k6, sN, fun e => sne e.symm, ?_, ?_⟩
        · show h sn - h nm ≤ h sn - h nm + r
          omega
        · show h sn - h nm + r ≤ h sn - h nm + 10
          omega
  · rintro _ H3 ⟨pl, nm, y5, y6, y7, ls, L, rfl, k1, k2, k3, k4, k5, k6, k7, k8, k9, k10, k11, k12⟩
    refine ⟨_, rfl, b, _, rfl, k1.ok hb, by decide, by decide, fun H6 r d6 r0 r1 => ⟨rfl, _, rfl, ite2 (fun one => ?_) (fun one => ?_)⟩⟩
    · have m8 := d6.keep nD k8
      have m9 := d6.ties (k1.ok hb) k9
      refine ⟨_, rfl, D, _, rfl, sq_l m8, fun p2 hp2 => ?_⟩
      have n := same_new (o := .lst (rf L).reverse) hp2
      refine q _ p2 L.reverse ((k1.trans d6).then_ n) (by rw [upd_same]; unfold rf; rw [List.map_reverse]) (fun q m => (m9.mono n) q (List.mem_reverse.mp m)) (by rw [List.length_reverse]; omega) fun t m => ?_
      refine k12 t ?_
      unfold tv at m ⊢
      rw [List.map_reverse] at m
      exact List.mem_reverse.mp m
    · exact ⟨_, rfl, q _ D L (k1.trans d6) (d6.keep nD k8) (d6.ties (k1.ok hb) k9) (by omega) k12⟩
end
end Sw
namespace Sw
open PySem PySem.Spec PyProof.Rows L2 Wr WM
section
variable {P : Program} {w : World} {K : PySem.W.Frag} {mg : Str → Option Value} {base : Heap}
/-! ### _law_p2_ties -/
theorem or_if {t u : TT} {σ : L2.St} {H : Hp} {R : Bool → Hp → Prop} (h1 : ∀ R : Bool → Hp → Prop, (∀ b, R b H) → t σ H R) (h2 : ∀ R : Bool → Hp → Prop, (∀ b, R b H) → u σ H R) (ht : R true H) (hf : R false H) : tOr t u σ H R := by
  refine h1 _ fun b => ?_
  cases b
  · exact h2 _ fun b => by cases b; exact hf; exact ht
  · exact ht
/-- the list of ties at p, as it grows -/
def Grown (H : Hp) (b : Addr) (N : List Str) (h : Str → Int) (H' : Hp) (p : Addr) (L : TL) (k : Nat) : Prop := Drawn H b H' ∧ H p = none ∧ H' p = some (.lst (rf L)) ∧ TiesIn H' L ∧ L.length ≤ k ∧ ∀ t ∈ tv L, Tied N h t
theorem Grown.more {H H' : Hp} {b p t : Addr} {N : List Str} {h : Str → Int} {L : TL} {k : Nat} {u : Tie} (hb : BagOk H b) (g : Grown H b N h H' p L k) (ht : H' t = none) (hu : Tied N h u) :
    (upd H' t (tieO u)) p = some (.lst (rf L)) ∧ Grown H b N h (upd (upd H' t (tieO u)) p (.lst (rf L ++ [.ref t]))) p (L ++ [(t, u)]) (k + 1) := by
  obtain ⟨k1, k2, k3, k4, k5, k6⟩ := g
  have n := same_new (o := tieO u) ht
  have m3 := n _ _ k3
  have tp : t ≠ p := (ne_of_none k3 ht).symm
  refine ⟨m3, (k1.then_ n).mut hb k2, k2, by rw [upd_same, rf_app]; rfl, ?_, ?_, ?_⟩
  · intro q mq
    rcases List.mem_append.mp mq with m | m
    · have z := k4.mono n q m
      rw [upd_ne (ne_of z m3 (fun z => by cases z))]
      exact z
    · rw [List.mem_singleton.mp m, upd_ne tp]
      exact upd_same
  · rw [List.length_append]
    show L.length + 1 ≤ k + 1
    omega
  · intro x mx
    rw [tv_app] at mx
    rcases List.mem_append.mp mx with m | m
    · exact k6 x m
    · rw [List.mem_singleton.mp m]
      exact hu
def spPTies : Sp := fun vs H Q _ => ∃ (b d : Addr) (ns : List Str) (h : Str → Int) (many : Int), vs = [.ref b, .ref d, .int many] ∧ BagOk H b ∧ H d = some (dS (emp :: ns) h) ∧ h emp = 0 ∧ (emp :: ns).Nodup ∧ 1 ≤ ns.length ∧ ns.length ≤ 20 ∧ 0 ≤ many ∧ many ≤ 9 ∧
  ∀ (H' : Hp) (p : Addr) (L : TL), Drawn H b H' → H' p = some (.lst (rf L)) → p ≠ b → TiesIn H' L → L.length ≤ 3 * (ns.length + 1) + 12 → (∀ t ∈ tv L, Tied (emp :: ns) h t) → Q (.ref p) H'
theorem ok_law_p2_ties (T : Tp K mg) : FnOk P w K mg base CX0 5 T.a__law_p2_ties T.d__law_p2_ties ["_law_bag_here", "_law_days", "_law_many"] spPTies := by
  refine T.F__law_p2_ties.ok sc_law_p2_ties (fun vs H Q E h => ?_) (fun cdv A outer s H vs Q E hr h => ?_)
  · obtain ⟨b, d, N, h, many, rfl, _⟩ := h; rfl
  obtain ⟨b, d, ns, h, many, rfl, hb, hd, he, nd, l2, few, m0, m1, q⟩ := h
  refine ⟨_, PSs.nox (pss_cons (ps_setLc (i := 3) (own := [("_law_k", 4)]) (te := (tCall _ [] E0 (tCons (tVar 0) (tCons (tVar 1) (tCons (tCall _ [] E0 (tCons (tVar 0) (tCons (tC (.int 5)) tNil))) tNil))))) (tt := tYes) rfl sc_law_p2_ties.nd rfl rfl (sw_true rfl rfl rfl (by decide +kernel)) (pi_range1 (by rfl) T.m_range (pa_cons (pe_call (ok_law_draw T) (hr.mono (by decide)) (by rfl) T.g__law_draw T.F__law_draw.kp (b__law_draw T) .nil pass0 (pa_cons (pv 0) (pa_cons (pe_op op_add (pv 2) pe_int) pa_nil))) pa_nil)) (blkOk_by (own := [("_law_k", 4)]) (N := N_law_p2_ties) (sc := defScope s_law_p2_ties) (by decide +kernel)) (fun _ _ _ _ _ => (pg_name (i := 4) sc_law_p2_ties.nd rfl (Or.inl rfl))) (fun _ _ _ _ _ => pts_nil) (fun _ _ _ _ _ => (pe_call (ok_law_p2_tie T) (hr.mono (by decide)) (by rfl) T.g__law_p2_tie T.F__law_p2_tie.kp (b__law_p2_tie T) .nil pass0 (pa_cons (pv 0) (pa_cons (pv 1) (pa_cons (pe_call (ok_law_draw T) (hr.mono (by decide)) (by rfl) T.g__law_draw T.F__law_draw.kp (b__law_draw T) .nil pass0 (pa_cons (pv 0) (pa_cons pe_int pa_nil))) pa_nil))))))
  (Evl.pss_cut (ps_if (pt_cmpR op_eq (pe_call (ok_law_draw T) (hr.mono (by decide)) (by rfl) T.g__law_draw T.F__law_draw.kp (b__law_draw T) .nil pass0 (pa_cons (pv 0) (pa_cons pe_int pa_nil))) pe_int (nomark _)) (pss_one (ps_set (i := 3) sc_law_p2_ties.nd rfl (Or.inl rfl) (pe_op op_cat (pe_slice sl_list (pv 3) po_none (po_some pe_int)) (pe_call (ok_law_p2_chain T) (hr.mono (by decide)) (by rfl) T.g__law_p2_chain T.F__law_p2_chain.kp (b__law_p2_chain T) .nil pass0 (pa_cons (pv 0) (pa_cons (pv 1) pa_nil)))))) pss_nil)
  (pss_cons (ps_set (i := 5) sc_law_p2_ties.nd rfl (Or.inl rfl) (pe_call (ok_law_draw T) (hr.mono (by decide)) (by rfl) T.g__law_draw T.F__law_draw.kp (b__law_draw T) .nil pass0 (pa_cons (pv 0) (pa_cons pe_int pa_nil))))
  (pss_cons (ps_for PassesOwn.never rfl (pi_list (pe_callB (call_sortedD rfl) (by rfl) T.m_sorted (by decide +kernel) (pa_cons (pv 1) pa_nil))) (pg_name (i := 6) sc_law_p2_ties.nd rfl (Or.inl rfl)) (Evl.pss_cut (ps_if (PW.pt (pw_and (pt_cmpR op_ne (pv 6) pe_str (nomark _)) (pw_and1 (PW.pt (pw_or (pt_cmpR op_eq (pv 5) pe_int (nomark _)) (pw_or1 (pt_cmpR op_eq (pv 5) pe_int (nomark _)))))))) (pss_one (ps_expr (pe_bm PySem.F.plainAttrs_list PySem.F.slot_list_append PySem.F.type_list_append mt_append (pv 3) (pa_cons (pe_tup (pa_cons pe_str (pa_cons (pv 6) (pa_cons (pe_op op_add (pe_dget (hu_of hr) (pv 1) (pv 6) (fun _ _ => rfl)) (pe_call (ok_law_draw T) (hr.mono (by decide)) (by rfl) T.g__law_draw T.F__law_draw.kp (b__law_draw T) .nil pass0 (pa_cons (pv 0) (pa_cons pe_int pa_nil)))) pa_nil)))) pa_nil)))) pss_nil)
  (pss_one (ps_if (PW.pt (pw_and (pt_cmpR op_ne (pv 6) pe_str (nomark _)) (pw_and1 (PW.pt (pw_or (pt_cmpR op_eq (pv 5) pe_int (nomark _)) (pw_or1 (pt_cmpR op_eq (pv 5) pe_int (nomark _)))))))) (pss_one (ps_expr (pe_bm PySem.F.plainAttrs_list PySem.F.slot_list_append PySem.F.type_list_append mt_append (pv 3) (pa_cons (pe_tup (pa_cons (pv 6) (pa_cons pe_str (pa_cons (pe_op op_sub (pe_call (ok_law_draw T) (hr.mono (by decide)) (by rfl) T.g__law_draw T.F__law_draw.kp (b__law_draw T) .nil pass0 (pa_cons (pv 0) (pa_cons pe_int pa_nil))) (pe_dget (hu_of hr) (pv 1) (pv 6) (fun _ _ => rfl))) pa_nil)))) pa_nil)))) pss_nil))))
  (pss_cons (ps_set (i := 7) sc_law_p2_ties.nd rfl (Or.inl rfl) (pe_call (ok_law_draw T) (hr.mono (by decide)) (by rfl) T.g__law_draw T.F__law_draw.kp (b__law_draw T) .nil pass0 (pa_cons (pv 0) (pa_cons (pe_op op_add (pe_callB call_len_seq (by rfl) T.m_len PySem.boot_len (pa_cons (pv 3) pa_nil)) pe_int) pa_nil))))
  (pss_one (ps_ret (pe_op op_cat (pe_slice sl_list (pv 3) (po_some (pv 7)) po_none) (pe_slice sl_list (pv 3) po_none (po_some (pv 7))))))))))), ?_⟩
  have dB : d ≠ b := hb.neO hd fun _ z => by cases z
  have em : emp ∈ emp :: ns := List.mem_cons_self
  have lN : (emp :: ns).length = ns.length + 1 := rfl
  refine ⟨_, rfl, _, rfl, _, _, rfl, rfl, b, _, rfl, hb, by omega, by omega, fun H1 v1 d1 v0 v1' => ⟨v1, rfl, by omega, by omega, fun D hD1 => ?_⟩⟩
  obtain ⟨n1, rfl⟩ : ∃ k : Nat, v1 = ((k : Nat) : Int) := ⟨v1.toNat, by omega⟩
  rw [Int.toNat_natCast]
  have e1 := d1
  have hD := e1.back hb hD1
  have nD := hb.ne hD
  let G (H' : Hp) (p : Addr) (L : TL) (k : Nat) : Prop := Grown H b (emp :: ns) h H' p L k
  refine lc_it (walk_range (lo := 0) (n := n1)) (fun i H' => ∃ L, G H' D L i) ⟨[], e1.then_ (same_new hD1), hD, upd_same, TiesIn.nil, Nat.le_refl _, fun _ m => nomatch m⟩ (fun _ _ _ _ => trivial) ?_ ?_
  · rintro i v H2 H2' hi ⟨L, k1, k2, k3, k4, k5, k6⟩ ⟨rfl, rfl⟩
    refine ⟨rfl, _, rfl, _, rfl, _, rfl, b, _, rfl, k1.ok hb, by decide, by decide, fun H3 v2 d3 w0 w1 => ?_⟩
    have l3 := k1.trans d3
    refine ⟨b, d, _, h, v2, rfl, l3.ok hb, l3.keep dB hd, nd, by omega, by omega, w0, by omega, fun H4 p t d4 hp ht _ => ?_⟩
    have l4 := l3.trans d4
    have m3 := (d3.trans d4).keep nD k3
    have m4 := (d3.trans d4).ties (k1.ok hb) k4
    have pD : p ≠ D := ne_of hp m3 (fun z => by cases z)
    refine ⟨_, m3, small' (by rw [rf_len]; omega), L ++ [(p, t)], l4.mut hb hD, k2, ?_, ?_, ?_, ?_⟩
    · rw [upd_same, rf_app]; rfl
    · intro q mq
      rcases List.mem_append.mp mq with m | m
      · have z := m4 q m
        rw [upd_ne (ne_of z m3 (fun z => by cases z))]
        exact z
      · rw [List.mem_singleton.mp m, upd_ne pD]
        exact hp
    · rw [List.length_append]
      show L.length + 1 ≤ i + 1
      omega
    · intro u mu
      rw [tv_app] at mu
      rcases List.mem_append.mp mu with m | m
      · exact k6 u m
      · rw [List.mem_singleton.mp m]
        exact ht
  rintro H2 ⟨L, k1, k2, k3, k4, k5, k6⟩
  let SS (p : Addr) (y5 y6 y7 : Option V) : L2.St := [some (.ref b), some (.ref d), some (.int many), some (.ref p), none, y5, y6, y7]
  refine ⟨fun σ H3 => ∃ p L, σ = SS p none none none ∧ G H3 p L (ns.length + 13), ?_, ?_⟩
  · refine ⟨_, rfl, b, _, rfl, k1.ok hb, by decide, by decide, fun H3 v2 d3 w0 w1 => ⟨rfl, _, rfl, ite2 (fun one => ?_) (fun one => ?_)⟩⟩
    · have l3 := k1.trans d3
      have m3 := d3.keep nD k3
      have m4 := d3.ties (k1.ok hb) k4
      refine ⟨_, rfl, _, rfl, D, _, rfl, sq_l m3, fun p1 hp1 => ?_⟩
      rw [show cutV (rf L) none (some 3) = (rf L).take 3 from cut_take _ 3]
      have p1b := (l3.ok hb).ne hp1
      have n1 := same_new (o := .lst ((rf L).take 3)) hp1
      have l4 := l3.then_ n1
      have u4 : (upd H3 p1 (.lst ((rf L).take 3))) p1 = some (.lst ((rf L).take 3)) := upd_same
      have m4 := m4.mono n1
      generalize upd H3 p1 (.lst ((rf L).take 3)) = H4 at l4 u4 m4 ⊢
      refine ⟨_, rfl, _, rfl, b, d, _, h, rfl, l4.ok hb, l4.keep dB hd, nd, by omega, by omega, fun H5 p2 M d5 hp2 hM lM tM => ?_⟩
      have l5 := l4.trans d5
      have u5 := d5.keep p1b u4
      have m5 := d5.ties (l4.ok hb) m4
      refine ⟨p1, p2, _, _, rfl, rfl, u5, hp2, ?_, fun p3 hp3 => ?_⟩
      · rw [List.length_take, rf_len, rf_len]
        exact small (by omega)
      have n3 := same_new (o := .lst ((rf L).take 3 ++ rf M)) hp3
      refine ⟨p3, L.take 3 ++ M, rfl, l5.then_ n3, l5.back hb hp3, ?_, ?_, ?_, ?_⟩
      · rw [upd_same, rf_app]
        unfold rf
        rw [List.map_take]
      · exact ((m5.sub fun q m => List.mem_of_mem_take m).app hM).mono n3
      · rw [List.length_append, List.length_take]
        omega
      · intro u mu
        rw [tv_app] at mu
        rcases List.mem_append.mp mu with m | m
        · refine k6 u ?_
          unfold tv at m
          rw [List.map_take] at m
          exact List.mem_of_mem_take m
        · exact tM u m
    · exact ⟨D, L, rfl, k1.trans d3, hD, d3.keep nD k3, d3.ties (k1.ok hb) k4, by omega, k6⟩
  rintro _ H3 ⟨p, L, rfl, k1, k2, k3, k4, k5, k6⟩
  refine ⟨_, rfl, b, _, rfl, k1.ok hb, by decide, by decide, fun H4 sd d4 w0 w1 => ?_⟩
  have pb := hb.ne k2
  have l1 := k1.trans d4
  have l3 := d4.keep pb k3
  have l4 := d4.ties (k1.ok hb) k4
  refine ⟨_, rfl, d, _, _, rfl, .of (l1.keep dB hd), kvs_keys _ h, by rw [lN]; omega, fun ys ps pm _ hps => ?_⟩
  have n := same_new (o := .lst (ys.map V.str)) hps
  have hpsb := (l1.ok hb).ne hps
  have l1 := l1.then_ n
  have l3 := n _ _ l3
  have l4 := l4.mono n
  have u4 : (upd H4 ps (.lst (ys.map V.str))) ps = some (.lst (ys.map V.str)) := upd_same
  have nps : p ≠ ps := ne_of_none (d4.keep pb k3) hps
  generalize upd H4 ps (.lst (ys.map V.str)) = H5 at l1 l3 l4 u4 ⊢
  have ly : ys.length = ns.length + 1 := pm.length_eq
  refine ⟨ps, rfl, ⟨_, sq_l u4⟩, ?_⟩
  let I (k : Nat) (H' : Hp) : Prop := H' ps = some (.lst (ys.map V.str)) ∧ ∃ L, G H' p L k
  refine for_it (walk_list (xs := ys.map V.str)) (fun i σ H' => (∃ y6, σ = SS p (some (.int sd)) y6 none) ∧ I (ns.length + 13 + 2 * i) H') ⟨⟨_, rfl⟩, u4, L, l1, k2, l3, l4, k5, k6⟩ (fun _ _ _ _ z => sq_l z.2.1) ?_ ?_
  · rintro i v _ H6 H6' hi ⟨⟨y6, rfl⟩, a0, L, a1, a2, a3, a4, a5, a6⟩ ⟨rfl, hv⟩
    obtain ⟨z, hz, rfl⟩ := names_at hv
    have mz : z ∈ emp :: ns := pm.mem_iff.mp (List.mem_of_getElem? hz)
    have hi2 : i < ys.length := by rw [List.length_map] at hi; exact hi
    have put : ∀ (σ : L2.St) (H7 : Hp) (Lx : TL) (kx : Nat) (t : Addr) (u : Tie), H7 ps = some (.lst (ys.map V.str)) → G H7 p Lx kx → H7 t = none → Tied (emp :: ns) h u →
        (upd H7 t (tieO u)) p = some (.lst (rf Lx)) ∧ I (kx + 1) (upd (upd H7 t (tieO u)) p (.lst (rf Lx ++ [.ref t]))) := fun σ H7 Lx kx t u x1 x2 x3 x4 => by
      have ⟨y1, y2⟩ := x2.more hb x3 x4
      refine ⟨y1, ?_, _, y2⟩
      rw [upd_ne nps.symm]
      exact same_new x3 _ _ x1
    refine ⟨fun σ H7 => σ = SS p (some (.int sd)) (some (.str z)) none ∧ I (ns.length + 13 + 2 * i + 1) H7, ?_, ?_⟩
    · have stay : SS p (some (.int sd)) (some (.str z)) none = SS p (some (.int sd)) (some (.str z)) none ∧ I (ns.length + 13 + 2 * i + 1) H6' := ⟨rfl, a0, L, a1, a2, a3, a4, by omega, a6⟩
      refine ⟨_, rfl, rfl, _, rfl, ite2 (fun ne => ?_) (fun _ => stay)⟩
      have ne : emp ≠ z := fun e => by
        rw [← e] at ne
        exact absurd ne (by decide)
      refine or_if (fun R h => ⟨_, rfl, rfl, _, rfl, h _⟩) (fun R h => ⟨_, rfl, rfl, _, rfl, h _⟩) ?_ stay
      refine ⟨_, rfl, .inl ⟨rfl, _, sq_l a3⟩, _, rfl, _, rfl, _, rfl, d, _, rfl, dS_has (a1.keep dB hd) mz, _, rfl, b, _, rfl, a1.ok hb, by decide, by decide, fun H8 r d8 r0 r1 => ⟨_, _, rfl, rfl, sz3, fun t ht => ?_⟩⟩
      have a4' := d8.ties (a1.ok hb) a4
      have ⟨p1, p2⟩ := put [] H8 L _ t ("", z, h z + r) (d8.keep hpsb a0) ⟨a1.trans d8, a2, d8.keep pb a3, a4', a5, a6⟩ ht ⟨em, mz, ne, by show h z - h emp ≤ h z + r; omega, by show h z + r ≤ h z - h emp + 10; omega⟩
      exact ⟨p, _, _, rfl, rfl, p1, small' (by rw [rf_len]; omega), rfl, p2⟩
    · rintro _ H7 ⟨rfl, c0, M, c1, c2, c3, c4, c5, c6⟩
      have stay : (∃ y6, SS p (some (.int sd)) (some (.str z)) none = SS p (some (.int sd)) y6 none) ∧ I (ns.length + 13 + 2 * (i + 1)) H7 := ⟨⟨_, rfl⟩, c0, M, c1, c2, c3, c4, by omega, c6⟩
      refine ⟨_, rfl, rfl, _, rfl, ite2 (fun ne => ?_) (fun _ => stay)⟩
      have ne : z ≠ emp := fun e => by
        rw [e] at ne
        exact absurd ne (by decide)
      refine or_if (fun R h => ⟨_, rfl, rfl, _, rfl, h _⟩) (fun R h => ⟨_, rfl, rfl, _, rfl, h _⟩) ?_ stay
      refine ⟨_, rfl, .inl ⟨rfl, _, sq_l c3⟩, _, rfl, _, rfl, b, _, rfl, c1.ok hb, by decide, by decide, fun H8 r d8 r0 r1 => ⟨_, rfl, _, rfl, d, _, rfl, dS_has ((c1.trans d8).keep dB hd) mz, _, _, rfl, rfl, sz3, fun t ht => ?_⟩⟩
      have c4' := d8.ties (c1.ok hb) c4
      have ⟨p1, p2⟩ := put [] H8 M _ t (z, "", r - h z) (d8.keep hpsb c0) ⟨c1.trans d8, c2, d8.keep pb c3, c4', c5, c6⟩ ht ⟨mz, em, ne, by show h emp - h z ≤ r - h z; omega, by show r - h z ≤ h emp - h z + 10; omega⟩
      exact ⟨p, _, _, rfl, rfl, p1, small' (by rw [rf_len]; omega), ⟨_, rfl⟩, p2⟩
  · rintro σ H6 ⟨⟨y6, rfl⟩, a0, L, a1, a2, a3, a4, a5, a6⟩
    rw [List.length_map, ly] at a5
    refine ⟨_, rfl, _, rfl, p, _, rfl, .inl (sq_l a3), _, _, rfl, rfl, ?_⟩
    refine ⟨b, _, rfl, a1.ok hb, ?_, ?_, fun H7 at_ d7 w0 w1 => ?_⟩
    · rw [rf_len]; omega
    · rw [rf_len]; omega
    rw [rf_len] at w1
    obtain ⟨k, rfl⟩ : ∃ k : Nat, at_ = ((k : Nat) : Int) := ⟨at_.toNat, by omega⟩
    have l7 := a1.trans d7
    have m3 := d7.keep pb a3
    have m4 := d7.ties (a1.ok hb) a4
    refine ⟨_, rfl, _, rfl, ((k : Nat) : Int), rfl, p, _, rfl, sq_l m3, fun p1 hp1 => ?_⟩
    rw [cut_drop]
    have n1 := same_new (o := .lst ((rf L).drop k)) hp1
    refine ⟨_, rfl, _, rfl, ((k : Nat) : Int), rfl, p, _, rfl, sq_l (n1 _ _ m3), fun p2 hp2 => ?_⟩
    rw [cut_take]
    have n2 := same_new (o := .lst ((rf L).take k)) hp2
    refine ⟨p1, p2, _, _, rfl, rfl, n2 _ _ upd_same, upd_same, ?_, fun p3 hp3 => ?_⟩
    · rw [List.length_take, List.length_drop, rf_len]
      exact small (by omega)
    have n3 := same_new (o := .lst ((rf L).drop k ++ (rf L).take k)) hp3
    have l8 := ((l7.then_ n1).then_ n2).then_ n3
    refine q _ p3 (L.drop k ++ L.take k) l8 ?_ ((((l7.then_ n1).then_ n2).ok hb).ne hp3) ((((m4.mono n1).mono n2).mono n3).sub fun q m => ?_) ?_ ?_
    · rw [upd_same, rf_app]
      unfold rf
      rw [List.map_drop, List.map_take]
    · exact (List.mem_append.mp m).elim List.mem_of_mem_drop List.mem_of_mem_take
    · rw [List.length_append, List.length_drop, List.length_take]
      omega
    · intro u mu
      refine a6 u ?_
      obtain ⟨q, mq, rfl⟩ := mem_tv mu
      exact List.mem_map.mpr ⟨q, (List.mem_append.mp mq).elim List.mem_of_mem_drop List.mem_of_mem_take, rfl⟩
end
end Sw
namespace Sw
open PySem PySem.Spec PyProof.Rows L2 Wr WM
section
variable {P : Program} {w : World} {K : PySem.W.Frag} {mg : Str → Option Value} {base : Heap}
/-! ### _law_p2_spread -/
structure TiedW (N : List Str) (h : Str → Int) (c : Int) (t : Tie) : Prop where
  a : t.1 ∈ N
  b : t.2.1 ∈ N
  ne : t.1 ≠ t.2.1
  lo : h t.2.1 - h t.1 ≤ t.2.2
  hi : t.2.2 ≤ h t.2.1 - h t.1 + c
def spSpread : Sp := fun vs H Q _ => ∃ (b d : Addr) (ns : List Str) (h : Str → Int) (many : Int), vs = [.ref b, .ref d, .int many] ∧ BagOk H b ∧ H d = some (dS (emp :: ns) h) ∧ h emp = 0 ∧ (emp :: ns).Nodup ∧ 1 ≤ ns.length ∧ ns.length ≤ 20 ∧ 0 ≤ many ∧ many ≤ 9 ∧
  ∀ (H' : Hp) (p : Addr) (L : TL), Drawn H b H' → H' p = some (.lst (rf L)) → p ≠ b → TiesIn H' L → L.length ≤ 3 * (ns.length + 1) + 14 → (∀ t ∈ tv L, TiedW (emp :: ns) h 12 t) → Q (.ref p) H'
theorem ok_law_p2_spread (T : Tp K mg) : FnOk P w K mg base CX0 6 T.a__law_p2_spread T.d__law_p2_spread ["_law_bag_here", "_law_days", "_law_many"] spSpread := by
  refine T.F__law_p2_spread.ok sc_law_p2_spread (fun vs H Q E h => ?_) (fun cdv A outer s H vs Q E hr h => ?_)
  · obtain ⟨b, d, N, h, many, rfl, _⟩ := h; rfl
  obtain ⟨b, d, ns, h, many, rfl, hb, hd, he, nd, l2, few, m0, m1, q⟩ := h
  refine ⟨_, PSs.nox (pss_cons (ps_set (i := 3) sc_law_p2_spread.nd rfl (Or.inl rfl) (pe_call (ok_law_p2_ties T) (hr.mono (by decide)) (by rfl) T.g__law_p2_ties T.F__law_p2_ties.kp (b__law_p2_ties T) .nil pass0 (pa_cons (pv 0) (pa_cons (pv 1) (pa_cons (pv 2) pa_nil)))))
  (pss_cons (ps_for PassesOwn.never rfl (pi_range1 (by rfl) T.m_range (pa_cons (pe_call (ok_law_draw T) (hr.mono (by decide)) (by rfl) T.g__law_draw T.F__law_draw.kp (b__law_draw T) .nil pass0 (pa_cons (pv 0) (pa_cons pe_int pa_nil))) pa_nil)) (pg_name (i := 4) sc_law_p2_spread.nd rfl (Or.inl rfl)) (pss_one (ps_if (pt_cmpR op_gt (pe_callB call_len_seq (by rfl) T.m_len PySem.boot_len (pa_cons (pv 3) pa_nil)) pe_int (nomark _)) (pss_cons (ps_set (i := 5) sc_law_p2_spread.nd rfl (Or.inl rfl) (pe_call (ok_law_pick T) (hr.mono (by decide)) (by rfl) T.g__law_pick T.F__law_pick.kp (b__law_pick T) .nil pass0 (pa_cons (pv 0) (pa_cons (pv 3) pa_nil))))
  (pss_cons (ps_set (i := 6) sc_law_p2_spread.nd rfl (Or.inl rfl) (pe_call (ok_law_draw T) (hr.mono (by decide)) (by rfl) T.g__law_draw T.F__law_draw.kp (b__law_draw T) .nil pass0 (pa_cons (pv 0) (pa_cons (pe_op op_add (pe_callB call_len_seq (by rfl) T.m_len PySem.boot_len (pa_cons (pv 3) pa_nil)) pe_int) pa_nil))))
  (pss_one (ps_set (i := 3) sc_law_p2_spread.nd rfl (Or.inl rfl) (pe_op op_cat (pe_op op_cat (pe_slice sl_list (pv 3) po_none (po_some (pv 6))) (pe_lst (pa_cons (pe_tup (pa_cons (pe_ix ix_tup (pv 5) pe_int (fun _ _ => rfl)) (pa_cons (pe_ix ix_tup (pv 5) pe_int (fun _ _ => rfl)) (pa_cons (pe_op op_add (pe_ix ix_tup (pv 5) pe_int (fun _ _ => rfl)) (pe_call (ok_law_draw T) (hr.mono (by decide)) (by rfl) T.g__law_draw T.F__law_draw.kp (b__law_draw T) .nil pass0 (pa_cons (pv 0) (pa_cons pe_int pa_nil)))) pa_nil)))) pa_nil))) (pe_slice sl_list (pv 3) (po_some (pv 6)) po_none)))))) pss_nil)))
  (pss_one (ps_ret (pv 3))))), ?_⟩
  refine ⟨_, rfl, _, rfl, _, rfl, b, d, ns, h, many, rfl, hb, hd, he, nd, l2, few, m0, m1, fun H1 p L d1 a1 a2 a3 a4 a5 => ?_⟩
  refine ⟨_, rfl, b, _, rfl, d1.ok hb, by decide, by decide, fun H2 v d2 v0 v1 => ⟨v, rfl, by omega, by omega, ?_⟩⟩
  obtain ⟨n1, rfl⟩ : ∃ k : Nat, v = ((k : Nat) : Int) := ⟨v.toNat, by omega⟩
  rw [Int.toNat_natCast]
  let SS (p : Addr) (y4 y5 y6 : Option V) : L2.St := [some (.ref b), some (.ref d), some (.int many), some (.ref p), y4, y5, y6]
  let M (i : Nat) (H' : Hp) (p : Addr) : Prop := Drawn H b H' ∧ p ≠ b ∧ ∃ L, H' p = some (.lst (rf L)) ∧ TiesIn H' L ∧ L.length ≤ 3 * (ns.length + 1) + 12 + i ∧ ∀ t ∈ tv L, TiedW (emp :: ns) h (10 + (i : Int)) t
  refine for_it (walk_range (lo := 0) (n := n1)) (fun i σ H' => ∃ p y4 y5 y6, σ = SS p y4 y5 y6 ∧ M i H' p) ⟨p, _, _, _, rfl, d1.trans d2, a2, L, d2.keep a2 a1, d2.ties (d1.ok hb) a3, a4, fun t m => ⟨(a5 t m).a, (a5 t m).b, (a5 t m).ne, (a5 t m).lo, by have := (a5 t m).hi; omega⟩⟩ (fun _ _ _ _ _ => trivial) ?_ ?_
  · rintro i v _ H3 H3' hi ⟨p, y4, y5, y6, rfl, k1, k2, L, k3, k4, k5, k6⟩ ⟨rfl, rfl⟩
    have up : ∀ t, TiedW (emp :: ns) h (10 + (i : Int)) t → TiedW (emp :: ns) h (10 + ((i + 1 : Nat) : Int)) t := fun t z => ⟨z.a, z.b, z.ne, z.lo, by have := z.hi; omega⟩
    refine ⟨_, rfl, p, _, rfl, .inl (sq_l k3), _, _, rfl, rfl, _, rfl, ite2 (fun pos => ?_) (fun _ => ⟨_, _, _, _, rfl, k1, k2, L, k3, k4, by omega, fun t m => up t (k6 t m)⟩)⟩
    have pos : (0 : Int) < (((rf L).length : Nat) : Int) := of_decide_eq_true pos
    rw [rf_len] at pos
    refine ⟨_, rfl, _, rfl, b, p, _, rfl, k1.ok hb, k3, k2, by rw [rf_len]; omega, by rw [rf_len]; omega, fun H4 x d4 mx => ?_⟩
    obtain ⟨⟨pt, t⟩, mt, rfl⟩ := List.mem_map.mp mx
    have hb3 := k1.ok hb
    have l1 := k1.trans d4
    have l3 := d4.keep k2 k3
    have l4 := d4.ties hb3 k4
    refine ⟨_, rfl, _, rfl, p, _, rfl, .inl (sq_l l3), _, _, rfl, rfl, b, _, rfl, l1.ok hb, by rw [rf_len]; omega, by rw [rf_len]; omega, fun H5 at_ d5 w0 w1 => ?_⟩
    rw [rf_len] at w1
    obtain ⟨k, rfl⟩ : ∃ k : Nat, at_ = ((k : Nat) : Int) := ⟨at_.toNat, by omega⟩
    have hb4 := l1.ok hb
    have l1 := l1.trans d5
    have l3 := d5.keep k2 l3
    have l4 := d5.ties hb4 l4
    refine ⟨_, rfl, _, rfl, ((k : Nat) : Int), rfl, p, _, rfl, sq_l l3, fun p1 hp1 => ?_⟩
    rw [cut_take]
    have n1 := same_new (o := .lst ((rf L).take k)) hp1
    have p1b := (l1.ok hb).ne hp1
    have l1 := l1.then_ n1
    have l3 := n1 _ _ l3
    have l4 := l4.mono n1
    have u1 : (upd H5 p1 (.lst ((rf L).take k))) p1 = some (.lst ((rf L).take k)) := upd_same
    generalize upd H5 p1 (.lst ((rf L).take k)) = H6 at l1 l3 l4 u1 ⊢
    have hpt : H6 pt = some (tieO t) := l4 _ mt
    have hb6 := l1.ok hb
    have ptb : pt ≠ b := hb6.neO hpt fun _ z => by cases z
    refine ⟨_, rfl, pt, _, _, _, rfl, rfl, sq_t hpt, rfl, _, rfl, pt, _, _, _, rfl, rfl, sq_t hpt, rfl, _, rfl, pt, _, _, _, rfl, rfl, sq_t hpt, rfl, _, rfl, b, _, rfl, hb6, by decide, by decide, fun H7 r d7 r0 r1 => ⟨_, _, rfl, rfl, sz3, fun t2 ht2 => ?_⟩⟩
    have l1 := l1.trans d7
    have l3 := d7.keep k2 l3
    have l4 := d7.ties hb6 l4
    have u1 := d7.keep p1b u1
    have n2 := same_new (o := .tup [.str t.1, .str t.2.1, .int (t.2.2 + r)]) ht2
    have l1 := l1.then_ n2
    have l3 := n2 _ _ l3
    have l4 := l4.mono n2
    have u1 := n2 _ _ u1
    have u2 : (upd H7 t2 (.tup [.str t.1, .str t.2.1, .int (t.2.2 + r)])) t2 = some (tieO (t.1, t.2.1, t.2.2 + r)) := upd_same
    generalize upd H7 t2 (.tup [.str t.1, .str t.2.1, .int (t.2.2 + r)]) = H8 at l1 l3 l4 u1 u2 ⊢
    refine ⟨sz1, fun p2 hp2 => ?_⟩
    have n3 := same_new (o := .lst [.ref t2]) hp2
    refine ⟨p1, p2, _, _, rfl, rfl, n3 _ _ u1, upd_same, ?_, fun p3 hp3 => ?_⟩
    · rw [List.length_take, rf_len]
      exact small (by show _ + 1 ≤ _; omega)
    have n4 := same_new (o := .lst ((rf L).take k ++ [.ref t2])) hp3
    have l1 := (l1.then_ n3).then_ n4
    have l3 := n4 _ _ (n3 _ _ l3)
    have l4 := (l4.mono n3).mono n4
    have u2 := n4 _ _ (n3 _ _ u2)
    have u3 : (upd (upd H8 p2 (.lst [.ref t2])) p3 (.lst ((rf L).take k ++ [.ref t2]))) p3 = some (.lst ((rf L).take k ++ [.ref t2])) := upd_same
    generalize (upd (upd H8 p2 (.lst [.ref t2])) p3 (.lst ((rf L).take k ++ [.ref t2]))) = H9 at l1 l3 l4 u2 u3 ⊢
    refine ⟨_, rfl, _, rfl, ((k : Nat) : Int), rfl, p, _, rfl, sq_l l3, fun p4 hp4 => ?_⟩
    rw [cut_drop]
    have n5 := same_new (o := .lst ((rf L).drop k)) hp4
    refine ⟨p3, p4, _, _, rfl, rfl, n5 _ _ u3, upd_same, ?_, fun p5 hp5 => ?_⟩
    · rw [List.length_append, List.length_take, List.length_drop, rf_len]
      exact small (by show (_ + 1) + _ ≤ _; omega)
    have n6 := same_new (o := .lst ((rf L).take k ++ [.ref t2] ++ (rf L).drop k)) hp5
    have l1 := (l1.then_ n5)
    refine ⟨p5, _, _, _, rfl, l1.then_ n6, (l1.ok hb).ne hp5, L.take k ++ [(t2, (t.1, t.2.1, t.2.2 + r))] ++ L.drop k, ?_, ?_, ?_, ?_⟩
    · rw [upd_same, rf_app, rf_app]
      unfold rf
      rw [List.map_take, List.map_drop]
      rfl
    · refine ((TiesIn.app ?_ (TiesIn.one u2)).app ?_).mono n5 |>.mono n6
      · exact l4.sub fun q m => List.mem_of_mem_take m
      · exact l4.sub fun q m => List.mem_of_mem_drop m
    · rw [List.length_append, List.length_append, List.length_take, List.length_drop]
      show _ + 1 + _ ≤ _
      omega
    · intro u mu
      rw [tv_app, tv_app] at mu
      have old := k6 t (List.mem_map.mpr ⟨_, mt, rfl⟩)
      rcases List.mem_append.mp mu with m | m
      · rcases List.mem_append.mp m with m | m
        · obtain ⟨q, mq, rfl⟩ := mem_tv m
          exact up _ (k6 _ (List.mem_map.mpr ⟨q, List.mem_of_mem_take mq, rfl⟩))
        · rw [List.mem_singleton.mp m]
          refine ⟨old.a, old.b, old.ne, ?_, ?_⟩
          · have := old.lo
            show h t.2.1 - h t.1 ≤ t.2.2 + r
            omega
          · have := old.hi
            show t.2.2 + r ≤ h t.2.1 - h t.1 + (10 + ((i + 1 : Nat) : Int))
            omega
      · obtain ⟨q, mq, rfl⟩ := mem_tv m
        exact up _ (k6 _ (List.mem_map.mpr ⟨q, List.mem_of_mem_drop mq, rfl⟩))
  · rintro _ H3 ⟨p, y4, y5, y6, rfl, k1, k2, L, k3, k4, k5, k6⟩
    exact ⟨_, rfl, q H3 p L k1 k3 k2 k4 (by omega) fun t m => ⟨(k6 t m).a, (k6 t m).b, (k6 t m).ne, (k6 t m).lo, by have := (k6 t m).hi; omega⟩⟩
end
end Sw
namespace Sw
open PySem PySem.Spec PyProof.Rows L2 Wr WM
section
variable {P : Program} {w : World} {K : PySem.W.Frag} {mg : Str → Option Value} {base : Heap}
/-! ### _law_p2_chosen -/
theorem and_if {t u : TT} {σ : L2.St} {H : Hp} {R : Bool → Hp → Prop} {p : Prop} (h1 : ∀ R : Bool → Hp → Prop, (∀ b, R b H) → t σ H R) (h2 : ∀ R : Bool → Hp → Prop, (∀ b, (b = true → p) → R b H) → u σ H R) (ht : p → R true H) (hf : R false H) : tAnd t u σ H R := by
  refine h1 _ fun b => ?_
  cases b
  · exact hf
  · refine h2 _ fun b hb => ?_
    cases b
    · exact hf
    · exact ht (hb rfl)
theorem DT.drawn {names : List Str} {H H' : Hp} {d b : Addr} {F : Tab Str} (h : DT names H d F) (e : Drawn H b H') (hb : BagOk H b) : DT names H' d F := by
  obtain ⟨N, f, h1, h2, h3, h4⟩ := h
  exact ⟨N, f, e.keep (hb.neO h1 fun _ z => by cases z) h1, h2, h3, h4⟩
def spChosen (K : PySem.W.Frag) : Sp := fun vs H Q _ => ∃ (b r l d : Addr) (L : TL) (ns wl N : List Str) (g : Str → Int), vs = [.ref b, .ref r, .ref l, .ref d] ∧ BagOk H b ∧ H r = some (.lst (rf L)) ∧ r ≠ b ∧ TiesIn H L ∧ TsOk (tv L) ∧ (∃ h, Feas (tv L) h) ∧ Lots (tv L) ns ∧ ns.length ≤ 19 ∧
  H l = some (.tup (wl.map V.str)) ∧ (emp :: wl).Nodup ∧ wl.length ≤ 20 ∧ H d = some (dS N g) ∧
  ∀ (H' : Hp) (c : Addr) (f : Str → Int), Drawn H b H' → H' c = some (dS (emp :: wl) f) → f emp = 0 → Q (.ref c) H'
theorem ok_law_p2_chosen (T : Tp K mg) : FnOk P w K mg base CX0 4 T.a__law_p2_chosen T.d__law_p2_chosen ["_law_bag_here", "_law_ties", "_law_wanted", "_law_days"] (spChosen K) := by
  refine T.F__law_p2_chosen.ok sc_law_p2_chosen (fun vs H Q E h => ?_) (fun cdv A outer s H vs Q E hr h => ?_)
  · obtain ⟨b, r, l, d, L, ns, wl, N, g, rfl, _⟩ := h; rfl
  obtain ⟨b, r, l, d, L, ns, wl, N, g, rfl, hb, hR, rb, hL, ok, ⟨h0, fe⟩, lots, ln, hl, nd, lw, hd, q⟩ := h
  refine ⟨_, PSs.nox (pss_cons (ps_set (i := 4) sc_law_p2_chosen.nd rfl (Or.inl rfl) (pe_op op_cat (pe_lst (pa_cons pe_str pa_nil)) (pe_call (ok_law_p2_lots T) (hr.mono (by decide)) (by rfl) T.g__law_p2_lots T.F__law_p2_lots.kp (b__law_p2_lots T) .nil pass0 (pa_cons (pv 1) pa_nil))))
  (pss_cons (ps_set (i := 5) sc_law_p2_chosen.nd rfl (Or.inr rfl) (pe_call (ok_law_p2_least T) (hr.mono (by decide)) (by rfl) T.g__law_p2_least T.F__law_p2_least.kp (b__law_p2_least T) .nil pass0 (pa_cons (pv 1) (pa_cons (pv 4) pa_nil))))
  (pss_cons (ps_set (i := 6) sc_law_p2_chosen.nd rfl (Or.inr rfl) pe_dnewK)
  (pss_cons (ps_dput (hu_of hr) (pv 6) pe_str pe_int rfl)
  (pss_cons (ps_for PassesOwn.never rfl (pi_tup (pv 2)) (pg_name (i := 7) sc_law_p2_chosen.nd rfl (Or.inr rfl)) (pss_cons (ps_setLc (i := 8) (own := [("_law_name_here", 10)]) (te := (tOp _ (tDGet (tVar 6) (tVar 10)) (tDGet (tVar 5) (tTup (tCons (tVar 10) (tCons (tVar 7) tNil)))))) (tt := (tB (tDIn (tTup (tCons (tVar 10) (tCons (tVar 7) tNil))) (tVar 5)))) rfl sc_law_p2_chosen.nd rfl rfl (sw_true rfl rfl rfl (by decide +kernel)) (pi_list (pe_callB (call_sortedD rfl) (by rfl) T.m_sorted (by decide +kernel) (pa_cons (pv 6) pa_nil))) (blkOk_by (own := [("_law_name_here", 10)]) (N := N_law_p2_chosen) (sc := defScope s_law_p2_chosen) (by decide +kernel)) (fun _ _ _ _ _ => (pg_name (i := 10) sc_law_p2_chosen.nd rfl (Or.inl rfl))) (fun _ _ _ _ _ => (pts_one (pt_cmp (pc_din (hu_of hr) (pe_tup (pa_cons (pv 10) (pa_cons (pv 7) pa_nil))) (pv 5))))) (fun _ _ _ _ _ => (pe_op op_add (pe_dget (hu_of hr) (pv 6) (pv 10) (fun _ _ => rfl)) (pe_dget (hu_of hr) (pv 5) (pe_tup (pa_cons (pv 10) (pa_cons (pv 7) pa_nil))) (fun _ _ => rfl)))))
  (pss_cons (ps_setLc (i := 9) (own := [("_law_name_here", 10)]) (te := (tOp _ (tDGet (tVar 6) (tVar 10)) (tDGet (tVar 5) (tTup (tCons (tVar 7) (tCons (tVar 10) tNil)))))) (tt := (tB (tDIn (tTup (tCons (tVar 7) (tCons (tVar 10) tNil))) (tVar 5)))) rfl sc_law_p2_chosen.nd rfl rfl (sw_true rfl rfl rfl (by decide +kernel)) (pi_list (pe_callB (call_sortedD rfl) (by rfl) T.m_sorted (by decide +kernel) (pa_cons (pv 6) pa_nil))) (blkOk_by (own := [("_law_name_here", 10)]) (N := N_law_p2_chosen) (sc := defScope s_law_p2_chosen) (by decide +kernel)) (fun _ _ _ _ _ => (pg_name (i := 10) sc_law_p2_chosen.nd rfl (Or.inl rfl))) (fun _ _ _ _ _ => (pts_one (pt_cmp (pc_din (hu_of hr) (pe_tup (pa_cons (pv 7) (pa_cons (pv 10) pa_nil))) (pv 5))))) (fun _ _ _ _ _ => (pe_op op_sub (pe_dget (hu_of hr) (pv 6) (pv 10) (fun _ _ => rfl)) (pe_dget (hu_of hr) (pv 5) (pe_tup (pa_cons (pv 7) (pa_cons (pv 10) pa_nil))) (fun _ _ => rfl)))))
  (pss_cons (ps_set (i := 11) sc_law_p2_chosen.nd rfl (Or.inl rfl) (pe_call (ok_law_draw T) (hr.mono (by decide)) (by rfl) T.g__law_draw T.F__law_draw.kp (b__law_draw T) .nil pass0 (pa_cons (pv 0) (pa_cons pe_int pa_nil))))
  (pss_cons (ps_set (i := 12) sc_law_p2_chosen.nd rfl (Or.inl rfl) (pe_dget2 (hu_of hr) (pv 3) (pv 7) pe_int ⟨by rfl, by rfl, by rfl, by rfl⟩))
  (Evl.pss_cut (ps_if (PW.pt (pw_and (pt_cmpR op_lt (pv 11) pe_int (nomark _)) (pw_and1 (pt_cmpR op_gt (pe_callB call_len_seq (by rfl) T.m_len PySem.boot_len (pa_cons (pv 8) pa_nil)) pe_int (nomark _))))) (pss_one (ps_set (i := 12) sc_law_p2_chosen.nd rfl (Or.inl rfl) (pe_op op_add (pe_callB (cr_min rfl) (by rfl) T.m_min (by decide +kernel) (pa_cons (pv 8) pa_nil)) (pe_op op_fdiv (pv 11) pe_int)))) (pss_one (ps_if (PW.pt (pw_and (pt_cmpR op_lt (pv 11) pe_int (nomark _)) (pw_and1 (pt_cmpR op_gt (pe_callB call_len_seq (by rfl) T.m_len PySem.boot_len (pa_cons (pv 9) pa_nil)) pe_int (nomark _))))) (pss_one (ps_set (i := 12) sc_law_p2_chosen.nd rfl (Or.inl rfl) (pe_op op_sub (pe_callB (cr_max rfl) (by rfl) T.m_max (by decide +kernel) (pa_cons (pv 9) pa_nil)) (pe_op op_fdiv (pv 11) pe_int)))) (pss_one (ps_if (pt_cmpR op_gt (pv 11) pe_int (nomark _)) (pss_one (ps_set (i := 12) sc_law_p2_chosen.nd rfl (Or.inl rfl) (pe_op op_sub (pe_op op_add (pv 12) (pe_call (ok_law_draw T) (hr.mono (by decide)) (by rfl) T.g__law_draw T.F__law_draw.kp (b__law_draw T) .nil pass0 (pa_cons (pv 0) (pa_cons pe_int pa_nil)))) pe_int))) pss_nil)))))
  (pss_one (ps_dput (hu_of hr) (pv 6) (pv 7) (pv 12) rfl))))))))
  (pss_one (ps_ret (pv 6)))))))), ?_⟩
  have lb : l ≠ b := hb.neO hl fun _ z => by cases z
  have db : d ≠ b := hb.neO hd fun _ z => by cases z
  refine ⟨sz1, fun p0 hp0 => ?_⟩
  have e0 := same_new (o := .lst [.str ""]) hp0
  refine ⟨_, rfl, r, L, rfl, sq_l (e0 _ _ hR), hL.mono e0, ok, fun H1 p1 ns1 e1 h1 lots1 => ?_⟩
  have := lots1.uniq lots
  subst this
  refine ⟨p0, p1, _, _, rfl, rfl, e1 _ _ upd_same, h1, by rw [List.length_map]; exact small (by show 1 + _ ≤ _; omega), fun p2 hp2 => ?_⟩
  have n2 := same_new (o := .lst ([.str ""] ++ ns1.map V.str)) hp2
  have e2 := (e0.trans e1).trans n2
  have u2 : (upd H1 p2 (.lst ([.str ""] ++ ns1.map V.str))) p2 = some (.lst ((emp :: ns1).map V.str)) := upd_same
  generalize upd H1 p2 (.lst ([.str ""] ++ ns1.map V.str)) = H2 at e2 u2 ⊢
  have ndn : (emp :: ns1).Nodup := List.nodup_cons.mpr ⟨fun m => ((lots1.mem emp).mp m).1 rfl, lots1.nd⟩
  refine ⟨_, rfl, _, rfl, r, p2, L, emp :: ns1, rfl, e2 _ _ hR, hL.mono e2, u2, ndn, fun t m => lots_ends lots1 t.1 t.2.1 t.2.2 m, by show _ + 1 ≤ 21; omega, ⟨h0, fe⟩, fun H3 fd e3 dt => ?_⟩
  have e3 := e2.trans e3
  intro pc hpc
  have pcH : H pc = none := by
    cases e : H pc with
    | none => rfl
    | some o => rw [e3 _ _ e] at hpc; cases hpc
  have n4 := same_new (o := .dK []) hpc
  have u0 : (upd H3 pc (.dK [])) pc = some (dS [] fun _ => 0) := upd_same
  have dt := dt.mono n4
  have e4 := Drawn.same (b := b) (e3.trans n4)
  generalize upd H3 pc (.dK []) = H4 at e4 u0 dt ⊢
  have fpc : ∀ {H' : Hp}, DT (emp :: ns1) H' fd (fw (tv L) (emp :: ns1)) → ∀ {N f}, H' pc = some (dS N f) → fd ≠ pc := fun {H'} x {N f} y => by
    obtain ⟨N2, f2, z⟩ := x.isD
    exact ne_of z y (fun z => by cases z)
  have put := dS_put u0 emp 0 (by show 0 < 100000; decide)
  refine ⟨_, rfl, pc, _, rfl, put, ?_⟩
  have fp := fpc dt u0
  have e5 := e4.mut (o := dS (addN [] emp) (setF (fun _ => 0) emp 0)) hb pcH
  have dt5 : DT (emp :: ns1) (upd H4 pc (dS (addN [] emp) (setF (fun _ => 0) emp 0))) fd (fw (tv L) (emp :: ns1)) := by
    obtain ⟨N2, f2, z1, z2, z3, z4⟩ := dt
    exact ⟨N2, f2, by rw [upd_ne fp]; exact z1, z2, z3, z4⟩
  have u1 : (upd H4 pc (dS (addN [] emp) (setF (fun _ => 0) emp 0))) pc = some (dS [emp] fun _ => 0) := by
    rw [upd_same]
    refine congrArg (fun f => some (dS [emp] f)) (funext fun x => ?_)
    unfold setF
    split <;> rfl
  generalize upd H4 pc (dS (addN [] emp) (setF (fun _ => 0) emp 0)) = H5 at e5 u1 dt5 ⊢
  refine ⟨_, rfl, l, rfl, ⟨_, sq_t (e5.keep lb hl)⟩, ?_⟩
  let SS (y7 y8 y9 y11 y12 : Option V) : L2.St := [some (.ref b), some (.ref r), some (.ref l), some (.ref d), some (.ref p2), some (.ref fd), some (.ref pc), y7, y8, y9, none, y11, y12]
  let J (k : Nat) (H' : Hp) : Prop := Drawn H b H' ∧ DT (emp :: ns1) H' fd (fw (tv L) (emp :: ns1)) ∧ ∃ f, H' pc = some (dS (emp :: wl.take k) f) ∧ f emp = 0
  refine for_it (walk_tup (xs := wl.map V.str)) (fun k σ H' => (∃ y7 y8 y9 y11 y12, σ = SS y7 y8 y9 y11 y12) ∧ J k H') ⟨⟨_, _, _, _, _, rfl⟩, e5, dt5, _, u1, rfl⟩ (fun _ _ _ _ z => sq_t (z.2.1.keep lb hl)) ?_ ?_
  · rintro k v _ H6 H6' hk ⟨⟨y7, y8, y9, y11, y12, rfl⟩, k1, k2, f, k3, k4⟩ ⟨rfl, hv⟩
    obtain ⟨x, hx, rfl⟩ := names_at hv
    have tk := take_one hx
    have zn : x ∉ emp :: wl.take k := by
      have nd2 : (emp :: wl.take (k + 1)).Nodup := List.Nodup.sublist (List.Sublist.cons_cons emp (List.take_sublist (k + 1) wl)) nd
      rw [tk] at nd2
      intro m
      rcases List.mem_cons.mp m with rfl | m
      · exact (List.nodup_cons.mp nd2).1 (List.mem_append_right _ (List.mem_singleton.mpr rfl))
      · exact (List.nodup_append.mp (List.nodup_cons.mp nd2).2).2.2 x m x (List.mem_singleton.mpr rfl) rfl
    have lk : (emp :: wl.take k).length ≤ 21 := by
      rw [List.length_cons, List.length_take]; omega
    refine ⟨_, rfl, pc, _, _, rfl, .of k3, kvs_keys _ f, by omega, fun ys ps pm _ hps => ?_⟩
    have n6 := same_new (o := .lst (ys.map V.str)) hps
    have u6 : (upd H6' ps (.lst (ys.map V.str))) ps = some (.lst (ys.map V.str)) := upd_same
    have k1 := k1.then_ n6
    have k2 := k2.mono n6
    have k3 := n6 _ _ k3
    have ly : ys.length ≤ 21 := by rw [pm.length_eq]; exact lk
    generalize upd H6' ps (.lst (ys.map V.str)) = H7 at k1 k2 k3 u6 ⊢
    refine ⟨ps, rfl, ⟨_, sq_l u6⟩, fun D hD => ?_⟩
    have Dnb := (k1.ok hb).ne hD
    refine lc_it (walk_list (xs := ys.map V.str)) (fun i H' => Same H7 H' ∧ ∃ us : List Int, H' D = some (.lst (us.map V.int)) ∧ us.length ≤ i) ⟨same_new hD, [], upd_same, Nat.le_refl _⟩ (fun i H' _ p => sq_l (p.1 _ _ u6)) ?_ ?_
    · rintro i v G8 G8' hi ⟨e8, us, h8, l8⟩ ⟨rfl, hv⟩
      obtain ⟨z, hz, rfl⟩ := names_at hv
      rw [List.length_map] at hi
      have mz : z ∈ emp :: wl.take k := pm.mem_iff.mp (List.mem_of_getElem? hz)
      refine ⟨rfl, _, rfl, _, rfl, sz2, fun t ht => ?_⟩
      have n := same_new (o := .tup [.str z, .str x]) ht
      have ut : (upd G8' t (.tup [.str z, .str x])) t = some (.tup [.str z, .str x]) := upd_same
      have e9 := e8.trans n
      have h9 := n _ _ h8
      generalize upd G8' t (.tup [.str z, .str x]) = G9 at ut e9 h9 ⊢
      refine ⟨_, rfl, fd, _, rfl, (k2.mono e9).get ut, _, rfl, ?_⟩
      cases hv2 : fw (tv L) (emp :: ns1) z x with
      | none => exact ⟨e9, us, h9, by omega⟩
      | some v =>
        refine ⟨_, rfl, _, rfl, pc, _, rfl, dS_has (e9 _ _ k3) mz, _, rfl, _, rfl, _, rfl, sz2, fun t2 ht2 => ?_⟩
        have n2 := same_new (o := .tup [.str z, .str x]) ht2
        have ut2 : (upd G9 t2 (.tup [.str z, .str x])) t2 = some (.tup [.str z, .str x]) := upd_same
        have e10 := e9.trans n2
        have h10 := n2 _ _ h9
        generalize upd G9 t2 (.tup [.str z, .str x]) = G10 at ut2 e10 h10 ⊢
        refine ⟨fd, _, rfl, (k2.mono e10).has ut2 hv2, _, _, rfl, rfl, _, h10, small' (by rw [List.length_map]; omega), same_mut e10 hD, us ++ [f z + v], ?_, ?_⟩
        · rw [upd_same, List.map_append]; rfl
        · rw [List.length_append]
          show us.length + 1 ≤ i + 1
          omega
    rintro H8 ⟨e8, us, h8, l8⟩
    have k1 := k1.then_ e8
    have k2 := k2.mono e8
    have k3 := e8 _ _ k3
    refine ⟨_, rfl, pc, _, _, rfl, .of k3, kvs_keys _ f, by omega, fun ys2 ps2 pm2 _ hps2 => ?_⟩
    have n8 := same_new (o := .lst (ys2.map V.str)) hps2
    have u8 : (upd H8 ps2 (.lst (ys2.map V.str))) ps2 = some (.lst (ys2.map V.str)) := upd_same
    have k1 := k1.then_ n8
    have k2 := k2.mono n8
    have k3 := n8 _ _ k3
    have h8 := n8 _ _ h8
    have ly2 : ys2.length ≤ 21 := by rw [pm2.length_eq]; exact lk
    generalize upd H8 ps2 (.lst (ys2.map V.str)) = H9 at k1 k2 k3 u8 h8 ⊢
    refine ⟨ps2, rfl, ⟨_, sq_l u8⟩, fun D2 hD2 => ?_⟩
    have D2nb := (k1.ok hb).ne hD2
    refine lc_it (walk_list (xs := ys2.map V.str)) (fun i H' => Same H9 H' ∧ ∃ us : List Int, H' D2 = some (.lst (us.map V.int)) ∧ us.length ≤ i) ⟨same_new hD2, [], upd_same, Nat.le_refl _⟩ (fun i H' _ p => sq_l (p.1 _ _ u8)) ?_ ?_
    · rintro i v G8 G8' hi ⟨e8, us, h8, l8⟩ ⟨rfl, hv⟩
      obtain ⟨z, hz, rfl⟩ := names_at hv
      rw [List.length_map] at hi
      have mz : z ∈ emp :: wl.take k := pm2.mem_iff.mp (List.mem_of_getElem? hz)
      refine ⟨rfl, _, rfl, _, rfl, sz2, fun t ht => ?_⟩
      have n := same_new (o := .tup [.str x, .str z]) ht
      have ut : (upd G8' t (.tup [.str x, .str z])) t = some (.tup [.str x, .str z]) := upd_same
      have e9 := e8.trans n
      have h9 := n _ _ h8
      generalize upd G8' t (.tup [.str x, .str z]) = G9 at ut e9 h9 ⊢
      refine ⟨_, rfl, fd, _, rfl, (k2.mono e9).get ut, _, rfl, ?_⟩
      cases hv2 : fw (tv L) (emp :: ns1) x z with
      | none => exact ⟨e9, us, h9, by omega⟩
      | some v =>
        refine ⟨_, rfl, _, rfl, pc, _, rfl, dS_has (e9 _ _ k3) mz, _, rfl, _, rfl, _, rfl, sz2, fun t2 ht2 => ?_⟩
        have n2 := same_new (o := .tup [.str x, .str z]) ht2
        have ut2 : (upd G9 t2 (.tup [.str x, .str z])) t2 = some (.tup [.str x, .str z]) := upd_same
        have e10 := e9.trans n2
        have h10 := n2 _ _ h9
        generalize upd G9 t2 (.tup [.str x, .str z]) = G10 at ut2 e10 h10 ⊢
        refine ⟨fd, _, rfl, (k2.mono e10).has ut2 hv2, _, _, rfl, rfl, _, h10, small' (by rw [List.length_map]; omega), same_mut e10 hD2, us ++ [f z - v], ?_, ?_⟩
        · rw [upd_same, List.map_append]; rfl
        · rw [List.length_append]
          show us.length + 1 ≤ i + 1
          omega
    rintro H10 ⟨e10, us2, h10, l10⟩
    have k1 := k1.then_ e10
    have k2 := k2.mono e10
    have k3 := e10 _ _ k3
    have h9 := e10 _ _ h8
    refine ⟨_, rfl, b, _, rfl, k1.ok hb, by decide, by decide, fun H11 wy d11 w0 w1 => ?_⟩
    have hb10 := k1.ok hb
    have pcb := hb.ne pcH
    have k1 := k1.trans d11
    have k2 := k2.drawn d11 hb10
    have k3 := d11.keep pcb k3
    have g8 := d11.keep Dnb h9
    have g10 := d11.keep D2nb h10
    refine ⟨_, rfl, d, rfl, .inl ⟨_, .of (k1.keep db hd)⟩, _, rfl, _, dS_get (k1.keep db hd) x, ?_⟩
    obtain ⟨dy, hdy⟩ : ∃ dy : Int, ((tb N g x).map V.int).getD (.int 3) = .int dy := by
      cases tb N g x with
      | none => exact ⟨_, rfl⟩
      | some v => exact ⟨_, rfl⟩
    rw [hdy]
    refine ⟨fun σ H12 => ∃ dy : Int, σ = [some (.ref b), some (.ref r), some (.ref l), some (.ref d), some (.ref p2), some (.ref fd), some (.ref pc), some (.str x), some (.ref D), some (.ref D2), none, some (.int wy), some (.int dy)] ∧ Drawn H11 b H12, ?_, ?_⟩
    · have stay : ∃ dy' : Int, [some (V.ref b), some (.ref r), some (.ref l), some (.ref d), some (.ref p2), some (.ref fd), some (.ref pc), some (.str x), some (.ref D), some (.ref D2), none, some (.int wy), some (.int dy)] = [some (.ref b), some (.ref r), some (.ref l), some (.ref d), some (.ref p2), some (.ref fd), some (.ref pc), some (.str x), some (.ref D), some (.ref D2), none, some (.int wy), some (.int dy')] ∧ Drawn H11 b H11 := ⟨dy, rfl, Drawn.refl⟩
      have isP : ∀ us : List Int, decide ((0 : Int) < (((us.map V.int).length : Nat) : Int)) = true → 0 < us.length := fun us z => by
        have z := of_decide_eq_true z
        rw [List.length_map] at z
        omega
      refine and_if (p := 0 < us.length) (fun R h => ⟨_, rfl, _, _, rfl, rfl, _, rfl, h _⟩) (fun R h => ⟨_, rfl, D, _, rfl, .inl (sq_l g8), _, _, rfl, rfl, _, rfl, h _ (isP us)⟩) (fun pos => ?_) (iteF ?_)
      · exact ⟨_, rfl, D, us, rfl, sq_l g8, pos, fun m _ _ => ⟨_, rfl, _, _, rfl, rfl, ⟨by decide, by decide⟩, _, _, rfl, rfl, _, rfl, Drawn.refl⟩⟩
      refine and_if (p := 0 < us2.length) (fun R h => ⟨_, rfl, _, _, rfl, rfl, _, rfl, h _⟩) (fun R h => ⟨_, rfl, D2, _, rfl, .inl (sq_l g10), _, _, rfl, rfl, _, rfl, h _ (isP us2)⟩) (fun pos => ?_) (iteF ?_)
      · exact ⟨_, rfl, D2, us2, rfl, sq_l g10, pos, fun m _ _ => ⟨_, rfl, _, _, rfl, rfl, ⟨by decide, by decide⟩, _, _, rfl, rfl, _, rfl, Drawn.refl⟩⟩
      refine ⟨_, rfl, _, _, rfl, rfl, _, rfl, ite2 (fun _ => ?_) (fun _ => stay)⟩
      exact ⟨_, rfl, _, rfl, b, _, rfl, k1.ok hb, by decide, by decide, fun H12 r12 d12 _ _ => ⟨_, _, rfl, rfl, _, _, rfl, rfl, _, rfl, d12⟩⟩
    · rintro _ H12 ⟨dy, rfl, d12⟩
      have hb11 := k1.ok hb
      have k1 := k1.trans d12
      have k2 := k2.drawn d12 hb11
      have k3 := d12.keep pcb k3
      have put := dS_put k3 x dy (by omega)
      refine ⟨_, rfl, _, rfl, _, rfl, pc, _, rfl, put, ⟨_, _, _, _, _, rfl⟩, k1.mut hb pcH, ?_, setF f x dy, ?_, ?_⟩
      · have fp := fpc k2 k3
        obtain ⟨N2, f2, z1, z2, z3, z4⟩ := k2
        exact ⟨N2, f2, by rw [upd_ne fp]; exact z1, z2, z3, z4⟩
      · rw [upd_same, tk]
        unfold addN
        rw [if_neg zn]
        rfl
      · unfold setF
        rw [if_neg fun (e : emp = x) => zn (by rw [← e]; exact List.mem_cons_self)]
        exact k4
  · rintro σ H6 ⟨⟨y7, y8, y9, y11, y12, rfl⟩, k1, k2, f, k3, k4⟩
    rw [List.length_map, List.take_length] at k3
    exact ⟨_, rfl, q H6 pc f k1 k3 k4⟩
end
end Sw
namespace Sw
open PySem PySem.Spec PyProof.Rows L2 Wr WM
section
variable {P : Program} {w : World} {K : PySem.W.Frag} {mg : Str → Option Value} {base : Heap}
/-! ### _law_p2_shadow -/
def spPShadow (C : Addr) : Sp := fun vs H Q _ => ∃ (b x r l d : Addr) (Lb L : TL) (wl N : List Str) (g : Str → Int), vs = [.ref b, .ref x, .ref r, .ref l, .ref d] ∧ BagOk H b ∧ BoxAt C H x Lb ∧ tv Lb = tv L ∧ H r = some (.lst (rf L)) ∧ r ≠ b ∧ TiesIn H L ∧ TsOk (tv L) ∧ (∃ h, Feas (tv L) h) ∧
  H l = some (.tup (wl.map V.str)) ∧ (emp :: wl).Nodup ∧ (∀ y ∈ wl, NmOk y) ∧ (∃ NL : List Str, NL.length ≤ 20 ∧ (∀ t ∈ tv L, t.1 ∈ NL ∧ t.2.1 ∈ NL) ∧ ∀ y ∈ emp :: wl, y ∈ NL) ∧ L.length + 2 * wl.length ≤ 100 ∧ H d = some (dS N g) ∧
  ∀ H' : Hp, Drawn H b H' → Q (.bl true) H'
theorem ok_law_p2_shadow (T : Tp K mg) : FnOk P w K mg base CX0 9 T.a__law_p2_shadow T.d__law_p2_shadow ["_law_bag_here", "_law_box", "_law_due", "_law_wanted", "_law_hidden"] (spPShadow T.a_Ties) := by
  refine T.F__law_p2_shadow.ok sc_law_p2_shadow (fun vs H Q E h => ?_) (fun cdv A outer s H vs Q E hr h => ?_)
  · obtain ⟨b, x, r, l, d, Lb, L, wl, N, g, rfl, _⟩ := h; rfl
  obtain ⟨b, x, r, l, d, Lb, L, wl, N, g, rfl, hb, hx, eL, hR, rb, hL, ok, ⟨h0, fe⟩, hl, ndw, wok, ⟨NL, nl1, nl2, nl3⟩, few, hd, q⟩ := h
  refine ⟨_, PSs.nox (pss_cons (ps_set (i := 5) sc_law_p2_shadow.nd rfl (Or.inl rfl) (pe_call (okshadow_ties T) (hr.mono (by decide)) (by rfl) T.g_shadow_ties T.F_shadow_ties.kp (b_shadow_ties T) .nil pass0 (pa_cons (pv 1) (pa_cons (pv 3) pa_nil))))
  (pss_cons (ps_set (i := 6) sc_law_p2_shadow.nd rfl (Or.inl rfl) (pe_op op_cat (pe_lst (pa_cons pe_str pa_nil)) (pe_call (ok_law_p2_lots T) (hr.mono (by decide)) (by rfl) T.g__law_p2_lots T.F__law_p2_lots.kp (b__law_p2_lots T) .nil pass0 (pa_cons (pv 2) pa_nil))))
  (pss_cons (ps_set (i := 7) sc_law_p2_shadow.nd rfl (Or.inl rfl) (pe_call (ok_law_p2_rows T) (hr.mono (by decide)) (by rfl) T.g__law_p2_rows T.F__law_p2_rows.kp (b__law_p2_rows T) .nil pass0 (pa_cons (pe_call (ok_law_p2_least T) (hr.mono (by decide)) (by rfl) T.g__law_p2_least T.F__law_p2_least.kp (b__law_p2_least T) .nil pass0 (pa_cons (pv 2) (pa_cons (pv 6) pa_nil))) (pa_cons (pv 6) pa_nil))))
  (pss_cons (ps_setLc (i := 9) (own := [("_law_row", 8)]) (te := (tVar 8)) (tt := (tAnd (tTest (tOp (rIn K false) (tOp (rIxT K) (tVar 8) (tC (.int 0))) (tOp _ (tLst (tCons (tC (.str "")) tNil)) (tCB (Evl.rListS K) (tCons (tVar 3) tNil))))) (tTest (tOp (rIn K false) (tOp (rIxT K) (tVar 8) (tC (.int 1))) (tOp _ (tLst (tCons (tC (.str "")) tNil)) (tCB (Evl.rListS K) (tCons (tVar 3) tNil))))))) rfl sc_law_p2_shadow.nd rfl rfl (sw_true rfl rfl rfl (by decide +kernel)) (pi_list (pv 7)) (blkOk_by (own := [("_law_row", 8)]) (N := N_law_p2_shadow) (sc := defScope s_law_p2_shadow) (by decide +kernel)) (fun _ _ _ _ _ => (pg_name (i := 8) sc_law_p2_shadow.nd rfl (Or.inl rfl))) (fun _ _ _ _ _ => (pts_one (PW.pt (pw_and (pt_cmpR op_in_seq (pe_ix ix_tup (pv 8) pe_int (fun _ _ => rfl)) (pe_op op_cat (pe_lst (pa_cons pe_str pa_nil)) (pe_callTy call_list_of (by rfl) T.m_list (by decide +kernel) (pa_cons (pv 3) pa_nil))) (by rfl)) (pw_and1 (pt_cmpR op_in_seq (pe_ix ix_tup (pv 8) pe_int (fun _ _ => rfl)) (pe_op op_cat (pe_lst (pa_cons pe_str pa_nil)) (pe_callTy call_list_of (by rfl) T.m_list (by decide +kernel) (pa_cons (pv 3) pa_nil))) (by rfl))))))) (fun _ _ _ _ _ => (pv 8)))
  (pss_cons (ps_if (PW.pt (pw_or (pt_not (pt_val (pe_call (ok_law_p2_are_ties T) (hr.mono (by decide)) (by rfl) T.g__law_p2_are_ties T.F__law_p2_are_ties.kp (b__law_p2_are_ties T) .nil pass0 (pa_cons (pv 5) pa_nil)))) (pw_or1 (pt_cmpR (op_neD (hu_D hr)) (pe_callTy call_list_of (by rfl) T.m_list (by decide +kernel) (pa_cons (pv 5) pa_nil)) (pv 9) (nomark _))))) (pss_one (ps_ret pe_bl)) pss_nil)
  (pss_cons (ps_for PassesOwn.never rfl (pi_range1 (by rfl) T.m_range (pa_cons pe_int pa_nil)) (pg_name (i := 10) sc_law_p2_shadow.nd rfl (Or.inl rfl)) (pss_one (ps_if (pt_not (pt_val (pe_call (ok_law_p2_goes_on T) (hr.mono (by decide)) (by rfl) T.g__law_p2_goes_on T.F__law_p2_goes_on.kp (b__law_p2_goes_on T) .nil pass0 (pa_cons (pv 2) (pa_cons (pv 5) (pa_cons (pe_call (ok_law_p2_chosen T) (hr.mono (by decide)) (by rfl) T.g__law_p2_chosen T.F__law_p2_chosen.kp (b__law_p2_chosen T) .nil pass0 (pa_cons (pv 0) (pa_cons (pv 2) (pa_cons (pv 3) (pa_cons (pv 4) pa_nil))))) (pa_cons (pv 3) pa_nil))))))) (pss_one (ps_ret pe_bl)) pss_nil)))
  (pss_one (ps_ret pe_bl)))))))), ?_⟩
  have okb : TsOk (tv Lb) := by rw [eL]; exact ok
  have feb : Feas (tv Lb) h0 := by rw [eL]; exact fe
  have lw : wl.length ≤ 20 := by
    have := nodup_le (emp :: wl) NL ndw nl3
    rw [List.length_cons] at this
    omega
  refine ⟨_, rfl, _, rfl, x, l, Lb, wl, rfl, hx, okb, ⟨h0, feb⟩, hl, by omega, fun H1 p ns M e1 lots hp hM eM => ?_⟩
  rw [eL] at lots eM
  have ndn : (emp :: ns).Nodup := List.nodup_cons.mpr ⟨fun m => ((lots.mem emp).mp m).1 rfl, lots.nd⟩
  have ln : ns.length ≤ 19 := by
    have := nodup_le (emp :: ns) NL ndn fun y m => by
      rcases List.mem_cons.mp m with rfl | m
      · exact nl3 _ List.mem_cons_self
      · obtain ⟨_, t, mt, e⟩ := (lots.mem y).mp m
        rcases e with rfl | rfl
        · exact (nl2 t mt).1
        · exact (nl2 t mt).2
    rw [List.length_cons] at this
    omega
  refine ⟨sz1, fun p0 hp0 => ?_⟩
  have e2 := e1.trans (same_new (o := .lst [.str ""]) hp0)
  have u0 : (upd H1 p0 (.lst [.str ""])) p0 = some (.lst [.str ""]) := upd_same
  have hp := same_new (o := .lst [.str ""]) hp0 _ _ hp
  have hM := hM.mono (same_new (o := .lst [.str ""]) hp0)
  generalize upd H1 p0 (.lst [.str ""]) = H2 at e2 u0 hp hM ⊢
  refine ⟨_, rfl, r, L, rfl, sq_l (e2 _ _ hR), hL.mono e2, ok, fun H3 p1 ns1 e3 h1 lots1 => ?_⟩
  have := lots1.uniq lots
  subst this
  refine ⟨p0, p1, _, _, rfl, rfl, e3 _ _ u0, h1, by rw [List.length_map]; exact small (by show 1 + _ ≤ _; omega), fun p2 hp2 => ?_⟩
  have n2 := same_new (o := .lst ([.str ""] ++ ns1.map V.str)) hp2
  have e4 := (e2.trans e3).trans n2
  have hp := n2 _ _ (e3 _ _ hp)
  have hM := (hM.mono e3).mono n2
  have u2 : (upd H3 p2 (.lst ([.str ""] ++ ns1.map V.str))) p2 = some (.lst ((emp :: ns1).map V.str)) := upd_same
  generalize upd H3 p2 (.lst ([.str ""] ++ ns1.map V.str)) = H4 at e4 u2 hp hM ⊢
  refine ⟨_, rfl, _, rfl, r, p2, L, emp :: ns1, rfl, e4 _ _ hR, hL.mono e4, u2, ndn, fun t m => lots_ends lots1 t.1 t.2.1 t.2.2 m, by show _ + 1 ≤ 21; omega, ⟨h0, fe⟩, fun H5 fd e5 dt => ?_⟩
  refine ⟨_, rfl, fd, p2, emp :: ns1, _, rfl, dt, e5 _ _ u2, by show _ + 1 ≤ 21; omega, fun H6 pe R e6 hpe hR6 eR => ?_⟩
  have e7 := (e4.trans e5).trans e6
  have hp := e6 _ _ (e5 _ _ hp)
  have hM := (hM.mono e5).mono e6
  have hl6 := e7 _ _ hl
  have lR : R.length ≤ 441 := by
    rw [← tv_len, eR]
    refine Nat.le_trans (rowsOf_len _ _ _) ?_
    show (ns1.length + 1) * (ns1.length + 1) ≤ 21 * 21
    exact Nat.mul_le_mul (by omega) (by omega)
  let kp : Tie → Bool := fun t => decide (t.1 ∈ emp :: wl) && decide (t.2.1 ∈ emp :: wl)
  refine ⟨_, rfl, pe, rfl, ⟨_, sq_l hpe⟩, fun D hD => ?_⟩
  refine lc_keep (walk_list (xs := rf R)) rfl (keepT H6 kp) hD (fun H' e => sq_l (e _ _ hpe)) (by rw [rf_len]; omega) (fun _ => rfl) (fun _ => rfl) ?_ ?_
  · intro i v H7 hv e R2 hR2
    obtain ⟨⟨pt, t⟩, hq, rfl⟩ := rf_at hv
    have kt : keepT H6 kp (.ref pt) = kp t := keepT_at (hR6.at_ hq)
    have hpt : H7 pt = some (tieO t) := e _ _ (hR6.at_ hq)
    rw [kt] at hR2
    have hl7 := e _ _ hl6
    refine ⟨_, rfl, pt, _, _, _, rfl, rfl, sq_t hpt, rfl, sz1, fun a1 ha1 => ?_⟩
    have ma1 := same_new (o := .lst [.str ""]) ha1
    refine ⟨_, rfl, l, _, rfl, .inr (sq_t (ma1 _ _ hl7)), fun a2 ha2 => ?_⟩
    have ma2 := same_new (o := .lst (wl.map V.str)) ha2
    refine ⟨a1, a2, _, _, rfl, rfl, ma2 _ _ upd_same, upd_same, by rw [List.length_map]; exact small (by show 1 + _ ≤ _; omega), fun a3 ha3 => ?_⟩
    have ma3 := (ma1.trans ma2).trans (same_new (o := .lst ([.str ""] ++ wl.map V.str)) ha3)
    refine ⟨a3, (emp :: wl).map V.str, rfl, .inl (sq_l upd_same), rfl, strs_flat _, _, rfl, ?_⟩
    rw [inV_strs]
    have hpt2 := ma3 _ _ hpt
    have hl8 := ma3 _ _ hl7
    have kpe : kp t = (decide (t.1 ∈ emp :: wl) && decide (t.2.1 ∈ emp :: wl)) := rfl
    rw [kpe] at hR2
    generalize upd (upd (upd H7 a1 (.lst [.str ""])) a2 (.lst (wl.map V.str))) a3 (.lst ([.str ""] ++ wl.map V.str)) = H8 at ma3 hpt2 hl8 ⊢
    by_cases z : t.1 ∈ emp :: wl
    · rw [decide_eq_true z] at hR2 ⊢
      rw [Bool.true_and] at hR2
      refine ⟨_, rfl, pt, _, _, _, rfl, rfl, sq_t hpt2, rfl, sz1, fun c1 hc1 => ?_⟩
      have mc1 := same_new (o := .lst [.str ""]) hc1
      refine ⟨_, rfl, l, _, rfl, .inr (sq_t (mc1 _ _ hl8)), fun c2 hc2 => ?_⟩
      have mc2 := same_new (o := .lst (wl.map V.str)) hc2
      refine ⟨c1, c2, _, _, rfl, rfl, mc2 _ _ upd_same, upd_same, by rw [List.length_map]; exact small (by show 1 + _ ≤ _; omega), fun c3 hc3 => ?_⟩
      have mc3 := (mc1.trans mc2).trans (same_new (o := .lst ([.str ""] ++ wl.map V.str)) hc3)
      refine ⟨c3, (emp :: wl).map V.str, rfl, .inl (sq_l upd_same), rfl, strs_flat _, _, rfl, ?_⟩
      rw [inV_strs]
      exact hR2 _ (ma3.trans mc3)
    · rw [decide_eq_false z] at hR2 ⊢
      exact hR2 _ ma3
  · intro H7 e8 hD7
    rw [rf_filter hR6] at hD7
    have eK : tv (R.filter fun q => kp q.2) = tv M := by
      rw [tv_filter, eR, eM]
      rfl
    have hK := (hR6.sub fun q (m : q ∈ R.filter fun q => kp q.2) => (List.mem_filter.mp m).1).mono e8
    generalize (R.filter fun q => kp q.2) = R' at hD7 eK hK
    have lM : M.length ≤ 441 := by
      have : (tv M).length ≤ 441 := by
        rw [eM]
        unfold shadowOf
        refine Nat.le_trans (List.length_filter_le _ _) (Nat.le_trans (rowsOf_len _ _ _) ?_)
        show (ns1.length + 1) * (ns1.length + 1) ≤ 21 * 21
        exact Nat.mul_le_mul (by omega) (by omega)
      rwa [tv_len] at this
    have e9 := e7.trans e8
    have hp7 := e8 _ _ hp
    have hM7 := hM.mono e8
    refine ⟨_, rfl, p, M, rfl, hp7, hM7, by omega, fun H8 e10 => ⟨true, rfl, iteF ?_⟩⟩
    refine ⟨_, rfl, p, _, rfl, .inr (sq_t (e10 _ _ hp7)), fun l4 hl4 => ?_⟩
    have n4 := same_new (o := .lst (rf M)) hl4
    have u4 : (upd H8 l4 (.lst (rf M))) l4 = some (.lst (rf M)) := upd_same
    have e11 := (e9.trans e10).trans n4
    have hp8 := n4 _ _ (e10 _ _ hp7)
    have hM8 := (hM7.mono e10).mono n4
    have hK8 := (hK.mono e10).mono n4
    have hD8 := n4 _ _ (e10 _ _ hD7)
    generalize upd H8 l4 (.lst (rf M)) = H9 at u4 e11 hp8 hM8 hK8 hD8 ⊢
    have endOk : ∀ y ∈ emp :: ns1, EndOk y := fun y m => by
      rcases List.mem_cons.mp m with rfl | m
      · exact .inl rfl
      · obtain ⟨_, t, mt, e⟩ := (lots1.mem y).mp m
        rcases e with rfl | rfl
        · exact (ok.ok t mt).one
        · exact (ok.ok t mt).two
    have okM : ∀ t ∈ tv M, TieOk t := fun t m => by
      rw [eM] at m
      have ⟨⟨m1, m2, m3, _⟩, _⟩ := mem_shadow.mp (show (t.1, t.2.1, t.2.2) ∈ shadowOf (tv L) ns1 wl from m)
      exact ⟨endOk _ m1, endOk _ m2, m3⟩
    have sh := shaped_ties okM
    have sh' : SeqAt.shaped (.list ((tv R').map tieD)) = true := by rw [eK]; exact sh
    refine ⟨_, rfl, _, _, .lst (sq_l u4) (dp_ties hM8), .lst (sq_l hD8) (dp_ties hK8), sh, sh', false, ?_, iteF ?_⟩
    · rw [eK, SeqAt.eqv_refl _ (SeqAt.canLay_of_shaped sh)]
      rfl
    refine ⟨3, rfl, by decide, by decide, ?_⟩
    have s9 := Drawn.same (b := b) e11
    have lb : l ≠ b := hb.neO hl fun _ z => by cases z
    have db : d ≠ b := hb.neO hd fun _ z => by cases z
    have pb : p ≠ b := (s9.ok hb).neO hp8 fun _ z => by cases z
    have hb9 := s9.ok hb
    refine for_it (walk_range (lo := 0) (n := 3)) (fun i σ H' => (∃ y8 y10, σ = [some (.ref b), some (.ref x), some (.ref r), some (.ref l), some (.ref d), some (.ref p), some (.ref p2), some (.ref pe), y8, some (.ref D), y10]) ∧ Drawn H9 b H') ⟨⟨_, _, rfl⟩, Drawn.refl⟩ (fun _ _ _ _ _ => trivial) ?_ ?_
    · rintro i v _ H10 H10' hi ⟨⟨y8, y10, rfl⟩, d10⟩ ⟨rfl, rfl⟩
      have t10 := s9.trans d10
      have L10 : TiesIn H10' L := t10.ties hb hL
      refine ⟨_, rfl, _, rfl, _, rfl, _, rfl, _, rfl, _, rfl, b, r, l, d, L, ns1, wl, N, g, rfl, t10.ok hb, t10.keep rb hR, rb, L10, ok, ⟨h0, fe⟩, lots1, ln, t10.keep lb hl, ndw, lw, t10.keep db hd, fun H11 c f d11 hc c0 => ?_⟩
      have t11 := t10.trans d11
      have d9 := d10.trans d11
      refine ⟨_, rfl, r, p, c, l, L, M, ns1, wl, f, rfl, t11.keep rb hR, t11.ties hb hL, d9.keep pb hp8, d9.ties hb9 hM8, hc, t11.keep lb hl, ok.ok, ⟨NL, nl1, nl2, nl3⟩, few, by omega, wok, lots1, eM, c0, ⟨h0, fe⟩, fun H12 e12 => ⟨true, rfl, iteF ?_⟩⟩
      exact ⟨⟨_, _, rfl⟩, d9.then_ e12⟩
    · rintro _ H10 ⟨⟨y8, y10, rfl⟩, d10⟩
      exact q _ (s9.trans d10)
end
end Sw
namespace Sw
open PySem PySem.Spec PyProof.Rows L2 Wr WM
section
variable {P : Program} {w : World} {K : PySem.W.Frag} {mg : Str → Option Value} {base : Heap}
/-! ### _law_name -/
def wordsT : Str := (" and or not free untouched least most of since until single recipe take move drain wash pack " : Str) ++ ("repeat when else end done yes no none " : Str)
theorem res_in : ∀ r ∈ resW, (Builtin.Str.occurrences wordsT ((" " : Str) ++ r ++ (" " : Str)) 0 wordsT.length 1).isEmpty = false := by decide +kernel
def spare (k : Nat) : Str := ("q" : Str) ++ (toString ((k : Nat) : Int) : Str)
theorem spare_ok : ∀ k : Nat, k ≤ 30 → NmOk (spare k) := by
  intro k hk
  have : ∀ k : Fin 31, (1 ≤ (spare k).length ∧ (spare k).length ≤ 8 ∧ ((spare k).cps.toList[0]? = some 113) ∧ ∀ c ∈ (spare k).cps.toList, c ∈ signs) ∧ spare k ∉ resW := by decide +kernel
  obtain ⟨⟨h1, h2, h3, h4⟩, h5⟩ := this ⟨k, by omega⟩
  exact ⟨⟨h1, h2, ⟨113, h3, by decide +kernel⟩, h4⟩, h5⟩
theorem spare_inj : ∀ i j : Nat, i ≤ 30 → j ≤ 30 → spare i = spare j → i = j := by
  have : ∀ i j : Fin 31, spare i = spare j → i = j := by decide +kernel
  intro i j hi hj e
  exact congrArg Fin.val (this ⟨i, by omega⟩ ⟨j, by omega⟩ e)
theorem spare_free (ns : List Str) (h : ns.length ≤ 30) : ∃ k, k ≤ ns.length ∧ spare k ∉ ns := by
  by_cases all : ∀ k, k ≤ ns.length → spare k ∈ ns
  · have nd : ((List.range (ns.length + 1)).map spare).Nodup := by
      refine List.pairwise_map.mpr ((List.nodup_range (n := ns.length + 1)).imp_of_mem fun {a b} ma mb ne e => ne ?_)
      have ha := List.mem_range.mp ma
      have hb := List.mem_range.mp mb
      exact spare_inj a b (by omega) (by omega) e
    have := nodup_le _ ns nd fun x m => by
      obtain ⟨k, mk, rfl⟩ := List.mem_map.mp m
      have := List.mem_range.mp mk
      exact all k (by omega)
    rw [List.length_map, List.length_range] at this
    omega
  · have ⟨k, hk⟩ := Classical.not_forall.mp all
    have ⟨m, n⟩ := Classical.not_imp.mp hk
    exact ⟨k, m, n⟩
theorem and_if2 {t u : TT} {σ : L2.St} {H : Hp} {R : Bool → Hp → Prop} {p q : Prop} (h1 : ∀ R : Bool → Hp → Prop, (∀ b, (b = true → p) → R b H) → t σ H R) (h2 : ∀ R : Bool → Hp → Prop, (∀ b, (b = true → q) → R b H) → u σ H R) (ht : p → q → R true H) (hf : R false H) : tAnd t u σ H R := by
  refine h1 _ fun b hp => ?_
  cases b
  · exact hf
  · refine h2 _ fun b hb => ?_
    cases b
    · exact hf
    · exact ht (hp rfl) (hb rfl)
structure NmI (i : Nat) (x : Str) : Prop where
  len : x.length = i + 1
  head : ∃ c, x.cps.toList[0]? = some c ∧ c ∈ letters
  all : ∀ c ∈ x.cps.toList, c ∈ signs
theorem sign_at (k : Nat) (h : k < 36) : ∃ c, signs[k]? = some c ∧ c ∈ signs := by
  have : signs.length = 36 := by decide +kernel
  exact ⟨signs[k]'(by omega), List.getElem?_eq_getElem (by omega), List.getElem_mem (by omega)⟩
theorem letter_at (k : Nat) (h : k < 26) : ∃ c, signs[k]? = some c ∧ c ∈ letters ∧ c ∈ signs := by
  have : ∀ k : Fin 26, ∃ c, signs[k.val]? = some c ∧ c ∈ letters ∧ c ∈ signs := by
    intro k
    have e : ∀ k : Fin 26, (signs[k.val]?).isSome = true ∧ (signs[k.val]?).getD 0 ∈ letters ∧ (signs[k.val]?).getD 0 ∈ signs := by decide +kernel
    obtain ⟨e1, e2, e3⟩ := e k
    obtain ⟨c, hc⟩ := Option.isSome_iff_exists.mp e1
    rw [hc] at e2 e3
    exact ⟨c, hc, e2, e3⟩
  exact this ⟨k, h⟩
theorem NmI.one {c : Nat} (h : c ∈ letters) (h2 : c ∈ signs) : NmI 0 ⟨#[c]⟩ := ⟨rfl, ⟨c, rfl, h⟩, fun d m => by rw [List.mem_singleton.mp m]; exact h2⟩
theorem cps_app (x y : Str) : (x ++ y).cps.toList = x.cps.toList ++ y.cps.toList := by
  show (x.cps ++ y.cps).toList = _
  exact Array.toList_append
theorem NmI.more {i c : Nat} {x : Str} (h : NmI i x) (h2 : c ∈ signs) : NmI (i + 1) (x ++ (⟨#[c]⟩ : Str)) := by
  have hl : x.cps.toList.length = i + 1 := by rw [Array.length_toList]; exact h.len
  refine ⟨?_, ?_, fun d m => ?_⟩
  · show (x ++ (⟨#[c]⟩ : Str)).cps.size = _
    rw [← Array.length_toList, cps_app, List.length_append, hl]
    rfl
  · obtain ⟨d, h1, h3⟩ := h.head
    exact ⟨d, by rw [cps_app, List.getElem?_append_left (by omega)]; exact h1, h3⟩
  · rw [cps_app] at m
    rcases List.mem_append.mp m with m | m
    · exact h.all d m
    · rw [List.mem_singleton.mp m]; exact h2
def spName2 : Sp := fun vs H Q _ => ∃ (b t : Addr) (ns : List Str), vs = [.ref b, .ref t] ∧ BagOk H b ∧ H t = some (.lst (ns.map V.str)) ∧ t ≠ b ∧ ns.length ≤ 30 ∧
  ∀ (H' : Hp) (x : Str), Drawn H b H' → NmOk x → x ∉ ns → Q (.str x) H'
theorem ok_law_name (T : Tp K mg) : FnOk P w K mg base CX0 3 T.a__law_name T.d__law_name ["_law_bag_here", "_law_taken"] spName2 := by
  refine T.F__law_name.ok sc_law_name (fun vs H Q E h => ?_) (fun cdv A outer s H vs Q E hr h => ?_)
  · obtain ⟨b, t, ns, rfl, _⟩ := h; rfl
  obtain ⟨b, t, ns, rfl, hb, ht, tb, few, q⟩ := h
  refine ⟨_, PSs.nox (pss_cons (ps_set (i := 2) sc_law_name.nd rfl (Or.inl rfl) pe_str)
  (pss_cons (ps_set (i := 3) sc_law_name.nd rfl (Or.inl rfl) (pe_ix ix_str (pv 2) (pe_call (ok_law_draw T) (hr.mono (by decide)) (by rfl) T.g__law_draw T.F__law_draw.kp (b__law_draw T) .nil pass0 (pa_cons (pv 0) (pa_cons pe_int pa_nil))) (fun _ _ => rfl)))
  (pss_cons (ps_for PassesOwn.never rfl (pi_range1 (by rfl) T.m_range (pa_cons (pe_ix ix_list (pe_lst (pa_cons pe_int (pa_cons pe_int (pa_cons pe_int (pa_cons pe_int pa_nil))))) (pe_call (ok_law_draw T) (hr.mono (by decide)) (by rfl) T.g__law_draw T.F__law_draw.kp (b__law_draw T) .nil pass0 (pa_cons (pv 0) (pa_cons pe_int pa_nil))) (fun _ _ => rfl)) pa_nil)) (pg_name (i := 4) sc_law_name.nd rfl (Or.inl rfl)) (pss_one (ps_set (i := 3) sc_law_name.nd rfl (Or.inl rfl) (pe_op op_add_str (pv 3) (pe_ix ix_str (pv 2) (pe_call (ok_law_draw T) (hr.mono (by decide)) (by rfl) T.g__law_draw T.F__law_draw.kp (b__law_draw T) .nil pass0 (pa_cons (pv 0) (pa_cons pe_int pa_nil))) (fun _ _ => rfl))))))
  (pss_cons (ps_set (i := 5) sc_law_name.nd rfl (Or.inl rfl) pe_str)
  (Evl.pss_cut (ps_if (PW.pt (pw_and (pt_cmpR op_notIn_seq (pv 3) (pv 1) (by rfl)) (pw_and1 (pt_cmpR op_notin_str (pe_op op_add_str (pe_op op_add_str pe_str (pv 3)) pe_str) (pe_op op_add_str (pv 5) pe_str) (by rfl))))) (pss_one (ps_ret (pv 3))) pss_nil)
  (pss_one (ps_ret (pe_ix ix_list (pe_lc (own := [("_law_spare", 6)]) (te := (tVar 6)) (tt := (tTest (tOp (rIn K true) (tVar 6) (tVar 1)))) rfl sc_law_name.nd (pi_list (pe_lc (own := [("_law_k", 4)]) (te := (tOp _ (tC (.str "q")) (tCB _ (tCons (tVar 4) tNil)))) (tt := tYes) rfl sc_law_name.nd (pi_range1 (by rfl) T.m_range (pa_cons (pe_op op_add (pe_callB call_len_seq (by rfl) T.m_len PySem.boot_len (pa_cons (pv 1) pa_nil)) pe_int) pa_nil)) (blkOk_by (own := [("_law_k", 4)]) (N := N_law_name) (sc := defScope s_law_name) (by decide +kernel)) (fun _ _ _ _ _ => (pg_name (i := 4) sc_law_name.nd rfl (Or.inl rfl))) (fun _ _ _ _ _ => pts_nil) (fun _ _ _ _ _ => (pe_op op_add_str pe_str (pe_callTy call_str_int (by rfl) T.m_str (by decide +kernel) (pa_cons (pv 4) pa_nil)))))) (blkOk_by (own := [("_law_spare", 6)]) (N := N_law_name) (sc := defScope s_law_name) (by decide +kernel)) (fun _ _ _ _ _ => (pg_name (i := 6) sc_law_name.nd rfl (Or.inl rfl))) (fun _ _ _ _ _ => (pts_one (pt_cmpR op_notIn_seq (pv 6) (pv 1) (by rfl)))) (fun _ _ _ _ _ => (pv 6))) pe_int (fun _ _ => rfl))))))))), ?_⟩
  refine ⟨_, rfl, _, rfl, b, _, rfl, hb, by decide, by decide, fun H1 v1 d1 v0 v1' => ?_⟩
  obtain ⟨k1, rfl⟩ : ∃ k : Nat, v1 = ((k : Nat) : Int) := ⟨v1.toNat, by omega⟩
  obtain ⟨c1, hc1, hl1, hs1⟩ := letter_at k1 (by omega)
  refine ⟨_, _, c1, rfl, rfl, (by show 36 ≤ sizeLine; decide), atI_nat hc1, ?_⟩
  refine ⟨(by show 4 ≤ sizeLine; decide), fun p hp => ?_⟩
  have e2 := d1.then_ (same_new (o := .lst [.int 0, .int 1, .int 2, .int 7]) hp)
  have pb := (d1.ok hb).ne hp
  refine ⟨_, rfl, b, _, rfl, e2.ok hb, by decide, by decide, fun H2 v2 d2 w0 w1 => ?_⟩
  have u2 := d2.keep pb (upd_same (H := H1) (o := .lst [.int 0, .int 1, .int 2, .int 7]))
  have e3 := e2.trans d2
  obtain ⟨k2, rfl⟩ : ∃ k : Nat, v2 = ((k : Nat) : Int) := ⟨v2.toNat, by omega⟩
  obtain ⟨m, hm, m7⟩ : ∃ m : Nat, ([V.int 0, .int 1, .int 2, .int 7] : List V)[k2]? = some (.int ((m : Nat) : Int)) ∧ m ≤ 7 := by
    have : k2 = 0 ∨ k2 = 1 ∨ k2 = 2 ∨ k2 = 3 := by omega
    rcases this with rfl | rfl | rfl | rfl
    · exact ⟨0, rfl, by decide⟩
    · exact ⟨1, rfl, by decide⟩
    · exact ⟨2, rfl, by decide⟩
    · exact ⟨7, rfl, by decide⟩
  refine ⟨p, _, _, _, rfl, rfl, sq_l u2, atI_nat hm, ((m : Nat) : Int), rfl, by omega, by omega, ?_⟩
  rw [Int.toNat_natCast]
  let SS (x : Str) (y4 : Option V) : L2.St := [some (.ref b), some (.ref t), some (.str "abcdefghijklmnopqrstuvwxyz0123456789"), some (.str x), y4, none, none]
  refine for_it (walk_range (lo := 0) (n := m)) (fun i σ H' => ∃ x y4, σ = SS x y4 ∧ Drawn H b H' ∧ NmI i x) ⟨⟨#[c1]⟩, _, rfl, e3, NmI.one hl1 hs1⟩ (fun _ _ _ _ _ => trivial) ?_ ?_
  · rintro i v _ H3 H3' hi ⟨x, y4, rfl, k1, nx⟩ ⟨rfl, rfl⟩
    refine ⟨_, rfl, _, rfl, _, rfl, b, _, rfl, k1.ok hb, by decide, by decide, fun H4 v4 d4 z0 z1 => ?_⟩
    obtain ⟨k4, rfl⟩ : ∃ k : Nat, v4 = ((k : Nat) : Int) := ⟨v4.toNat, by omega⟩
    obtain ⟨c4, hc4, hs4⟩ := sign_at k4 (by omega)
    refine ⟨_, _, c4, rfl, rfl, (by show 36 ≤ sizeLine; decide), atI_nat hc4, ?_⟩
    refine ⟨x, ⟨#[c4]⟩, rfl, rfl, small (by rw [nx.len]; show i + 1 + 1 ≤ _; omega), _, _, rfl, k1.trans d4, nx.more hs4⟩
  rintro _ H3 ⟨x, y4, rfl, l1, nx⟩
  have hx8 : x.length ≤ 8 := by rw [nx.len]; omega
  have ht3 := l1.keep tb ht
  refine ⟨fun σ H4 => σ = [some (.ref b), some (.ref t), some (.str "abcdefghijklmnopqrstuvwxyz0123456789"), some (.str x), y4, some (.str " and or not free untouched least most of since until single recipe take move drain wash pack "), none] ∧ H4 = H3, ?_, ?_⟩
  refine and_if2 (p := x ∉ ns) (q := x ∉ resW) (fun R h => ⟨_, rfl, _, rfl, t, _, rfl, .inl (sq_l ht3), rfl, strs_flat _, _, rfl, h _ fun z => ?_⟩) (fun R h => ⟨_, rfl, _, _, rfl, rfl, small (by show 1 + x.length ≤ _; omega), _, _, rfl, rfl, ?_, _, rfl, _, _, rfl, rfl, (by show _ ≤ sizeLine; decide +kernel), _, _, rfl, rfl, _, rfl, h _ fun z => ?_⟩) (fun ni nf => ?_) (iteF ⟨rfl, rfl⟩)
  · rw [inV_strs] at z
    intro m
    rw [decide_eq_true m] at z
    cases z
  · show ((" " : Str) ++ x).length + 1 ≤ sizeLine
    rw [strLen_append]
    exact small (by show 1 + x.length + 1 ≤ _; omega)
  · intro m
    have e := res_in x m
    have z : (!(!(Builtin.Str.occurrences wordsT ((" " : Str) ++ x ++ (" " : Str)) 0 wordsT.length 1).isEmpty)) = true := z
    rw [e] at z
    cases z
  · exact ⟨_, rfl, q H3 x l1 ⟨⟨by rw [nx.len]; omega, hx8, nx.head, nx.all⟩, nf⟩ ni⟩
  rintro _ H4 ⟨rfl, eH⟩
  subst eH
  have lt : (ns.map V.str).length = ns.length := List.length_map _
  refine ⟨_, rfl, t, _, rfl, .inl (sq_l ht3), _, _, rfl, rfl, (((ns.map V.str).length : Nat) : Int) + 1, rfl, by omega, by omega, fun D hD => ?_⟩
  rw [show ((((ns.map V.str).length : Nat) : Int) + 1).toNat = ns.length + 1 by omega]
  have sp : ∀ i, i ≤ 30 → NmOk (spare i) := spare_ok
  refine lc_it (walk_range (lo := 0) (n := ns.length + 1)) (fun i H' => Same H4 H' ∧ H' D = some (.lst (((List.range i).map spare).map V.str))) ⟨same_new hD, upd_same⟩ (fun _ _ _ _ => trivial) ?_ ?_
  · rintro i v H5 H5' hi ⟨e5, h5⟩ ⟨rfl, rfl⟩
    refine ⟨rfl, _, rfl, (0 : Int) + ((i : Nat) : Int), rfl, ?_, _, _, rfl, rfl, ?_, _, h5, ?_, same_mut e5 hD, ?_⟩
    · refine Nat.lt_of_le_of_lt (Nat.log2_le_self _) ?_
      omega
    · rw [Int.zero_add]
      have := (sp i (by omega)).nm.most
      have e : (spare i).length = 1 + (toString ((i : Nat) : Int) : Str).length := by
        unfold spare
        rw [strLen_append]
        rfl
      exact small (by show 1 + _ ≤ _; omega)
    · rw [List.length_map, List.length_map, List.length_range]
      exact small' (by omega)
    · rw [upd_same, List.range_succ, List.map_append, List.map_append, Int.zero_add]
      rfl
  · rintro H5 ⟨e5, h5⟩
    have ht5 := e5 _ _ ht3
    refine ⟨D, rfl, ⟨_, sq_l h5⟩, fun D2 hD2 => ?_⟩
    let keep : V → Bool := fun v => match v with | .str x => !decide (x ∈ ns) | _ => false
    refine lc_keep (walk_list (xs := ((List.range (ns.length + 1)).map spare).map V.str)) rfl keep hD2 (fun H' e => sq_l (e _ _ h5)) (by rw [List.length_map, List.length_map, List.length_range]; omega) (fun _ => rfl) (fun _ => rfl) ?_ ?_
    · intro j x H6 hx e R hR
      obtain ⟨z, hz, rfl⟩ := names_at hx
      have hk : keep (.str z) = !decide (z ∈ ns) := rfl
      rw [hk, ← inV_strs] at hR
      exact ⟨_, rfl, _, rfl, t, _, rfl, .inl (sq_l (e _ _ ht5)), rfl, strs_flat _, _, rfl, hR H6 (Same.refl _)⟩
    · intro H6 e6 h6
      obtain ⟨k, hk, nk⟩ := spare_free ns few
      have mem : V.str (spare k) ∈ (((List.range (ns.length + 1)).map spare).map V.str).filter keep := List.mem_filter.mpr ⟨List.mem_map.mpr ⟨_, List.mem_map.mpr ⟨k, List.mem_range.mpr (by omega), rfl⟩, rfl⟩, by show (!decide (spare k ∈ ns)) = true; rw [decide_eq_false nk]; rfl⟩
      obtain ⟨y, ys, hys⟩ : ∃ y ys, (((List.range (ns.length + 1)).map spare).map V.str).filter keep = y :: ys := by
        cases e : (((List.range (ns.length + 1)).map spare).map V.str).filter keep with
        | nil => rw [e] at mem; cases mem
        | cons y ys => exact ⟨y, ys, rfl⟩
      have my : y ∈ (((List.range (ns.length + 1)).map spare).map V.str).filter keep := by rw [hys]; exact List.mem_cons_self
      obtain ⟨m1, m2⟩ := List.mem_filter.mp my
      obtain ⟨z, mz, rfl⟩ := names_mem m1
      obtain ⟨j, mj, rfl⟩ := List.mem_map.mp mz
      have hj := List.mem_range.mp mj
      have m2 : (!decide (spare j ∈ ns)) = true := m2
      rw [hys] at h6
      refine ⟨D2, _, ((0 : Nat) : Int), _, rfl, rfl, sq_l h6, atI_nat (j := 0) rfl, q H6 _ ((l1.then_ e5).then_ e6) (sp j (by omega)) fun m => ?_⟩
      rw [decide_eq_true m] at m2
      cases m2
end
end Sw
namespace Sw
open PySem PySem.Spec PyProof.Rows L2 Wr WM
section
variable {P : Program} {w : World} {K : PySem.W.Frag} {mg : Str → Option Value} {base : Heap}
/-! ### _law_names -/
def spNames : Sp := fun vs H Q _ => ∃ (b t : Addr) (n : Nat) (ns : List Str), vs = [.ref b, .int ((n : Nat) : Int), .ref t] ∧ BagOk H b ∧ H t = some (.lst (ns.map V.str)) ∧ t ≠ b ∧ ns.length ≤ 15 ∧ n ≤ 15 ∧
  ∀ (H' : Hp) (p : Addr) (ms : List Str), Drawn H b H' → H' p = some (.lst (ms.map V.str)) → p ≠ b → ms.Nodup → (∀ x ∈ ms, NmOk x) → ms.length = n → Q (.ref p) H'
theorem ok_law_names (T : Tp K mg) : FnOk P w K mg base CX0 4 T.a__law_names T.d__law_names ["_law_bag_here", "_law_many", "_law_taken"] spNames := by
  refine T.F__law_names.ok sc_law_names (fun vs H Q E h => ?_) (fun cdv A outer s H vs Q E hr h => ?_)
  · obtain ⟨b, t, n, ns, rfl, _⟩ := h; rfl
  obtain ⟨b, t, n, ns, rfl, hb, ht, tb, few, fn, q⟩ := h
  refine ⟨_, PSs.nox (pss_cons (ps_set (i := 3) sc_law_names.nd rfl (Or.inl rfl) (pe_lst pa_nil))
  (pss_cons (ps_for PassesOwn.never rfl (pi_range1 (by rfl) T.m_range (pa_cons (pv 1) pa_nil)) (pg_name (i := 4) sc_law_names.nd rfl (Or.inl rfl)) (pss_one (ps_expr (pe_bm PySem.F.plainAttrs_list PySem.F.slot_list_append PySem.F.type_list_append mt_append (pv 3) (pa_cons (pe_call (ok_law_name T) (hr.mono (by decide)) (by rfl) T.g__law_name T.F__law_name.kp (b__law_name T) .nil pass0 (pa_cons (pv 0) (pa_cons (pe_op op_cat (pv 2) (pv 3)) pa_nil))) pa_nil)))))
  (pss_one (ps_ret (pv 3))))), ?_⟩
  refine ⟨sz0, fun D hD => ?_⟩
  have nD := hb.ne hD
  have tD : t ≠ D := ne_of_none ht hD
  refine ⟨_, rfl, ((n : Nat) : Int), rfl, by omega, by omega, ?_⟩
  rw [Int.toNat_natCast]
  refine for_it (walk_range (lo := 0) (n := n)) (fun i σ H' => (∃ y4, σ = [some (.ref b), some (.int ((n : Nat) : Int)), some (.ref t), some (.ref D), y4]) ∧ Drawn H b H' ∧ ∃ ms : List Str, H' D = some (.lst (ms.map V.str)) ∧ ms.Nodup ∧ (∀ x ∈ ms, NmOk x) ∧ ms.length = i) ⟨⟨_, rfl⟩, Drawn.same (same_new hD), [], upd_same, List.nodup_nil, (fun _ m => absurd m List.not_mem_nil), rfl⟩ (fun _ _ _ _ _ => trivial) ?_ ?_
  · rintro i v _ H1 H1' hi ⟨⟨y4, rfl⟩, d1, ms, h1, nd, ok, len⟩ ⟨rfl, rfl⟩
    refine ⟨_, rfl, .inl ⟨rfl, _, sq_l h1⟩, _, rfl, _, rfl, _, rfl, t, D, _, _, rfl, rfl, d1.keep tb ht, h1, ?_, fun p hp => ?_⟩
    · rw [List.length_map, List.length_map]
      exact small (by omega)
    have n1 := same_new (o := .lst (ns.map V.str ++ ms.map V.str)) hp
    have pb := (d1.ok hb).ne hp
    have d2 := d1.then_ n1
    have h2 := n1 _ _ h1
    refine ⟨b, p, ns ++ ms, rfl, d2.ok hb, by rw [upd_same, List.map_append], pb, by rw [List.length_append]; omega, fun H3 x d3 okx nx => ?_⟩
    have h3 := d3.keep nD h2
    refine ⟨D, _, _, rfl, rfl, h3, small' (by rw [List.length_map]; omega), ⟨_, rfl⟩, (d2.trans d3).mut hb hD, ms ++ [x], ?_, ?_, ?_, ?_⟩
    · rw [upd_same, List.map_append]; rfl
    · exact List.nodup_append.mpr ⟨nd, by simp, fun a ma c mc e => nx (List.mem_append_right _ (by rw [← List.mem_singleton.mp mc, ← e]; exact ma))⟩
    · intro a ma
      exact (List.mem_append.mp ma).elim (ok a) fun m => by rw [List.mem_singleton.mp m]; exact okx
    · rw [List.length_append, len]; rfl
  · rintro _ H1 ⟨⟨y4, rfl⟩, d1, ms, h1, nd, ok, len⟩
    exact ⟨_, rfl, q H1 D ms d1 h1 nD nd ok len⟩
end
end Sw
namespace Sw
open PySem PySem.Spec PyProof.Rows L2 Wr WM
section
variable {X : Cx}
/-- repr of a tuple of data, where nothing is being written out around it -/
def rReprD (K : PySem.W.Frag) : List V → Hp → VK → Prop := fun xs H Q => ∃ p ds, xs = [.ref p] ∧ Dp K H (.ref p) (.tuple ds) ∧ (PyData.tuple ds).showable = true ∧ (PyData.tuple ds).hasDict = false ∧ (PyData.tuple ds).depth ≤ 20 ∧ (PyData.tuple ds).shown.length ≤ sizeLine ∧ Q (.str (PyData.tuple ds).shown) H
theorem call_reprD (hg : X.A.guards = some []) (hu : X.A.units + 64 < cLine) : CallR X (.builtin "repr") (rReprD X.K) := by
  intro pins s σ H xs us Q I r h
  obtain ⟨p, ds, rfl, hd, hs, hn, hk, hz, q⟩ := h
  obtain ⟨u, rfl, rx⟩ := vals1 r
  obtain rfl : u = Value.ref p := rx
  obtain ⟨as, rr⟩ := Dp.reads I _ _ _ hd rfl
  exact repr_of_reads' rr hs (PyData.noDict_hsm hn) hg (by omega) (fun _ _ e => e) (fun h' u tk hk => ⟨.str _, H, I.kept hk, ⟨u, rfl⟩, q⟩) hz
end
theorem sign_small : ∀ c ∈ signs, c < 16 ^ 8 := by decide +kernel
theorem end_text {x : Str} (h : EndOk x) : (reprText x).length ≤ 82 := by
  rcases h with rfl | h
  · decide +kernel
  · have := StrLaws.reprText_len x fun c m => sign_small c (h.nm.all c m)
    have := h.nm.most
    omega
theorem tie_text {t : Tie} (h : TieOk t) (hn : t.2.2.natAbs.log2 < 1920) : (tieD t).shown.length ≤ 2200 := by
  show (tupleText [reprText t.1, reprText t.2.1, (toString t.2.2 : Str)]).length ≤ 2200
  have e := fmt_text [reprText t.1, reprText t.2.1, (toString t.2.2 : Str)]
  have e1 := end_text h.one
  have e2 := end_text h.two
  have e3 : (Str.ofString (toString t.2.2)).length ≤ 1921 := int_text_len_1921 hn
  have e3' : (toString t.2.2 : Str).length ≤ 1921 := e3
  rw [piled_cons, piled_cons, piled_cons] at e
  have e4 : piled [] = 0 := rfl
  omega
theorem ties_piled : ∀ T : List Tie, (∀ t ∈ T, TieOk t ∧ t.2.2.natAbs.log2 < 1920) → piled (PyData.shownAll (T.map tieD)) ≤ 2202 * T.length
  | [], _ => Nat.zero_le _
  | t :: T, h => by
    have ih := ties_piled T fun u m => h u (List.mem_cons_of_mem _ m)
    have ⟨a, b⟩ := h t List.mem_cons_self
    have e := tie_text a b
    show piled ((tieD t).shown :: PyData.shownAll (T.map tieD)) ≤ _
    rw [piled_cons, List.length_cons]
    omega
theorem ties_show : ∀ T : List Tie, (∀ t ∈ T, t.2.2.natAbs.log2 < 1920) → PyData.showableAll (T.map tieD) = true
  | [], _ => rfl
  | t :: T, h => by
    have ih := ties_show T fun u m => h u (List.mem_cons_of_mem _ m)
    show ((true && (true && (decide (t.2.2.natAbs.log2 < 1920) && true))) && PyData.showableAll (T.map tieD)) = true
    rw [ih, decide_eq_true (h t List.mem_cons_self)]
    rfl
/-- what repr asks of a tuple of ties -/
theorem ties_repr {K : PySem.W.Frag} {H : Hp} {p : Addr} {M : TL} {Q : VK} (hp : H p = some (.tup (rf M))) (hM : TiesIn H M) (ok : ∀ t ∈ tv M, TieOk t ∧ t.2.2.natAbs.log2 < 1920) (few : M.length ≤ 1000) (q : Q (.str (PyData.tuple ((tv M).map tieD)).shown) H) : rReprD K [.ref p] H Q := by
  obtain ⟨h1, h2⟩ := ties_lay (tv M) fun t m => ⟨end_str (ok t m).1.one, end_str (ok t m).1.two⟩
  refine ⟨p, _, rfl, .tup (sq_t hp) (dp_ties hM), ties_show _ fun t m => (ok t m).2, PyData.hasDictAll_of_canLayAll _ h1, ?_, ?_, q⟩
  · show PyData.depthAll ((tv M).map tieD) + 1 ≤ 20
    omega
  · show (tupleText (PyData.shownAll ((tv M).map tieD))).length ≤ sizeLine
    have e := fmt_text (PyData.shownAll ((tv M).map tieD))
    have e2 := ties_piled (tv M) ok
    rw [tv_len] at e2
    rw [sizeLine_eq]
    omega
end Sw
namespace Sw
open PySem PySem.Spec PyProof.Rows L2 Wr WM
theorem emp_first : ∀ ys : List Str, sortedS ys = true → emp ∈ ys → ∃ r, ys = emp :: r
  | [], _, m => nomatch m
  | x :: r, h, m => by
    rcases List.mem_cons.mp m with e | m
    · exact ⟨r, by rw [e]⟩
    · have z := rising_mem x r h emp m
      refine ⟨r, ?_⟩
      have : x.cps.toList = [] := by
        cases e : x.cps.toList with
        | nil => rfl
        | cons c l =>
          rw [e] at z
          exact absurd (List.nil_lt_cons c l) z
      rw [str_ext (a := x) (b := emp) (by rw [this]; rfl)]
section
variable {ms : List Str} {h : Str → Int} {T : List Tie} {c : Int}
theorem tiedW_end (ok : ∀ x ∈ ms, NmOk x) {x : Str} (m : x ∈ emp :: ms) : EndOk x := by
  rcases List.mem_cons.mp m with rfl | m
  · exact .inl rfl
  · exact .inr (ok x m)
theorem tiedW_ok (w : ∀ t ∈ T, TiedW (emp :: ms) h c t) (ok : ∀ x ∈ ms, NmOk x) (few : ms.length ≤ 15) (l : T.length ≤ 100) : TsOk T :=
  ⟨fun t m => ⟨tiedW_end ok (w t m).a, tiedW_end ok (w t m).b, (w t m).ne⟩, l, emp :: ms, by show ms.length + 1 ≤ 20; omega, fun t m => ⟨(w t m).a, (w t m).b⟩⟩
theorem tiedW_feas (w : ∀ t ∈ T, TiedW (emp :: ms) h c t) : Feas T h := fun a b n m => by
  have := (w _ m).lo
  have : h b - h a ≤ n := this
  omega
theorem tiedW_bd (w : ∀ t ∈ T, TiedW (emp :: ms) h 12 t) (h0 : h emp = 0) (hb : ∀ x ∈ ms, -(10 ^ 32) ≤ h x ∧ h x ≤ 10 ^ 32) : ∀ a b n, (a, b, n) ∈ T → -(10 ^ 33) ≤ n ∧ n ≤ 10 ^ 33 := fun a b n m => by
  have hx : ∀ x ∈ emp :: ms, -(10 ^ 32) ≤ h x ∧ h x ≤ 10 ^ 32 := fun x m => by
    rcases List.mem_cons.mp m with rfl | m
    · rw [h0]; decide
    · exact hb x m
  have z := w _ m
  have l1 := hx _ z.a
  have l2 := hx _ z.b
  have lo : h b - h a ≤ n := z.lo
  have hi : n ≤ h b - h a + 12 := z.hi
  have l1 : -(10 ^ 32) ≤ h a ∧ h a ≤ 10 ^ 32 := l1
  have l2 : -(10 ^ 32) ≤ h b ∧ h b ≤ 10 ^ 32 := l2
  omega
theorem log2_small {n : Int} {k : Nat} (hk : k ≤ 20) (a : -(2 ^ k * 10 ^ 33) ≤ n) (b : n ≤ 2 ^ k * 10 ^ 33) : n.natAbs.log2 < 1920 := by
  have p : (2 : Int) ^ k * 10 ^ 33 ≤ 2 ^ 20 * 10 ^ 33 := Int.mul_le_mul_of_nonneg_right (by
    have : (2 : Nat) ^ k ≤ 2 ^ 20 := Nat.pow_le_pow_right (by decide) hk
    have e : ((2 ^ k : Nat) : Int) ≤ ((2 ^ 20 : Nat) : Int) := Int.ofNat_le.mpr this
    rw [Int.natCast_pow, Int.natCast_pow] at e
    exact e) (by decide)
  have q : n.natAbs ≤ 2 ^ 20 * 10 ^ 33 := by
    have q1 : n ≤ 2 ^ 20 * 10 ^ 33 := Int.le_trans b p
    have q2 : -(2 ^ 20 * 10 ^ 33) ≤ n := by omega
    omega
  by_cases z : n.natAbs = 0
  · rw [z]; decide
  · rw [Nat.log2_lt z]
    exact Nat.lt_of_le_of_lt q (by decide +kernel)
theorem shadow_facts {ns wl : List Str} (w : ∀ t ∈ T, TiedW (emp :: ms) h 12 t) (ok : ∀ x ∈ ms, NmOk x) (h0 : h emp = 0) (hb : ∀ x ∈ ms, -(10 ^ 32) ≤ h x ∧ h x ≤ 10 ^ 32) (lots : Lots T ns) (ln : ns.length ≤ 19) :
    ∀ t ∈ shadowOf T ns wl, TieOk t ∧ t.2.2.natAbs.log2 < 1920 := fun t m => by
  have ⟨⟨m1, m2, m3, m4⟩, _⟩ := mem_shadow.mp (show (t.1, t.2.1, t.2.2) ∈ shadowOf T ns wl from m)
  have endOk : ∀ y ∈ emp :: ns, EndOk y := fun y m => by
    rcases List.mem_cons.mp m with rfl | m
    · exact .inl rfl
    · obtain ⟨_, t, mt, e⟩ := (lots.mem y).mp m
      rcases e with rfl | rfl
      · exact tiedW_end ok (w t mt).a
      · exact tiedW_end ok (w t mt).b
  refine ⟨⟨endOk _ m1, endOk _ m2, m3⟩, ?_⟩
  have bd := fw_bd (names := emp :: ns) (tiedW_feas w) (B := 10 ^ 33) (by decide) (tiedW_bd w h0 hb) _ _ _ m4
  exact log2_small (k := (emp :: ns).length) (by show ns.length + 1 ≤ 20; omega) bd.1 bd.2
theorem lots_few {ns : List Str} (w : ∀ t ∈ T, TiedW (emp :: ms) h c t) (lots : Lots T ns) : ns.length ≤ ms.length := by
  refine nodup_le ns ms lots.nd fun y m => ?_
  obtain ⟨ne, t, mt, e⟩ := (lots.mem y).mp m
  rcases e with rfl | rfl
  · exact (List.mem_cons.mp (w t mt).a).resolve_left ne
  · exact (List.mem_cons.mp (w t mt).b).resolve_left ne
theorem shadow_none {ns : List Str} {T : List Tie} : shadowOf T ns [] = [] := by
  refine List.eq_nil_iff_forall_not_mem.mpr fun t m => ?_
  have ⟨⟨_, _, m3, _⟩, m5, m6⟩ := mem_shadow.mp (show (t.1, t.2.1, t.2.2) ∈ shadowOf T ns [] from m)
  exact m3 ((List.mem_singleton.mp m5).trans (List.mem_singleton.mp m6).symm)
end
end Sw
namespace Sw
open PySem PySem.Spec PyProof.Rows L2 Wr WM
section
variable {P : Program} {w : World} {K : PySem.W.Frag} {mg : Str → Option Value} {base : Heap}
theorem Drawn.box {C : Addr} {H H' : Hp} {b a : Addr} {L : TL} (d : Drawn H b H') (hb : BagOk H b) (h : BoxAt C H a L) : BoxAt C H' a L := by
  obtain ⟨dx, r, h1, h2, h3⟩ := h
  exact ⟨dx, r, d.keep (hb.neO h1 fun _ z => by cases z) h1, d.keep (hb.neO h2 fun _ z => by cases z) h2, d.ties hb h3⟩
theorem shadow_len {T : List Tie} {ns wl : List Str} (h : ns.length ≤ 19) : (shadowOf T ns wl).length ≤ 441 := by
  unfold shadowOf
  refine Nat.le_trans (List.length_filter_le _ _) (Nat.le_trans (rowsOf_len _ _ _) ?_)
  show (ns.length + 1) * (ns.length + 1) ≤ 21 * 21
  exact Nat.mul_le_mul (by omega) (by omega)
theorem ties_reprF {K : PySem.W.Frag} {H : Hp} {p : Addr} {M : TL} {T : List Tie} (hp : H p = some (.tup (rf M))) (hM : TiesIn H M) (e : tv M = T) (ok : ∀ t ∈ T, TieOk t ∧ t.2.2.natAbs.log2 < 1920) (few : T.length ≤ 1000) :
    Dp K H (.ref p) (.tuple (T.map tieD)) ∧ (PyData.tuple (T.map tieD)).showable = true ∧ (PyData.tuple (T.map tieD)).hasDict = false ∧ (PyData.tuple (T.map tieD)).depth ≤ 20 ∧ (PyData.tuple (T.map tieD)).shown.length ≤ sizeLine := by
  subst e
  obtain ⟨p', ds, e1, h1, h2, h3, h4, h5, q⟩ := ties_repr (K := K) (Q := fun v _ => v = .str (PyData.tuple ((tv M).map tieD)).shown) hp hM ok (by rw [← tv_len]; exact few) rfl
  obtain ⟨h6, h7⟩ := ties_lay (tv M) fun t m => ⟨end_str (ok t m).1.one, end_str (ok t m).1.two⟩
  have e2 := V.str.inj q
  refine ⟨.tup (sq_t hp) (dp_ties hM), ties_show _ fun t m => (ok t m).2, PyData.hasDictAll_of_canLayAll _ h6, ?_, by rw [← e2]; exact h5⟩
  show PyData.depthAll ((tv M).map tieD) + 1 ≤ 20
  omega
def spLaw (K : PySem.W.Frag) : Sp := fun vs H Q _ => ∃ (p : Addr) (ns : List Int), vs = [.ref p] ∧ SqL K H p (ns.map V.int) ∧ ∀ H', Q (.bl true) H'
theorem oklaw (T : Tp K mg) : FnG P w K mg base CX0 10 T.a_law T.d_law ["_law_script"] (spLaw K) := by
  refine fnG_of T.F_law sclaw (fun vs H Q E h => ?_) (fun cdv A outer s H vs Q E hg hr h => ?_)
  · obtain ⟨p, ns, rfl, _⟩ := h; rfl
  obtain ⟨p, ns, rfl, hp, q⟩ := h
  refine ⟨_, PSs.nox (pss_cons (ps_set (i := 1) sclaw.nd rfl (Or.inl rfl) (pe_call (ok_law_bag T) (hr.mono (by decide)) (by rfl) T.g__law_bag T.F__law_bag.kp (b__law_bag T) .nil pass0 (pa_cons (pv 0) pa_nil)))
  (pss_cons (ps_set (i := 2) sclaw.nd rfl (Or.inl rfl) (pe_call (ok_law_p2_days T) (hr.mono (by decide)) (by rfl) T.g__law_p2_days T.F__law_p2_days.kp (b__law_p2_days T) .nil pass0 (pa_cons (pv 1) (pa_cons (pe_call (ok_law_names T) (hr.mono (by decide)) (by rfl) T.g__law_names T.F__law_names.kp (b__law_names T) .nil pass0 (pa_cons (pv 1) (pa_cons (pe_op op_add pe_int (pe_call (ok_law_draw T) (hr.mono (by decide)) (by rfl) T.g__law_draw T.F__law_draw.kp (b__law_draw T) .nil pass0 (pa_cons (pv 1) (pa_cons (pe_ix ix_list (pe_lst (pa_cons pe_int (pa_cons pe_int pa_nil))) (pe_callTy call_int1 (by rfl) T.m_int boot_int (pa_cons (pe_cmpR op_eq (pe_call (ok_law_draw T) (hr.mono (by decide)) (by rfl) T.g__law_draw T.F__law_draw.kp (b__law_draw T) .nil pass0 (pa_cons (pv 1) (pa_cons pe_int pa_nil))) pe_int (nomark _)) pa_nil)) (fun _ _ => rfl)) pa_nil)))) (pa_cons (pe_lst pa_nil) pa_nil)))) pa_nil))))
  (pss_cons (ps_set (i := 3) sclaw.nd rfl (Or.inl rfl) (pe_call (ok_law_p2_spread T) (hr.mono (by decide)) (by rfl) T.g__law_p2_spread T.F__law_p2_spread.kp (b__law_p2_spread T) .nil pass0 (pa_cons (pv 1) (pa_cons (pv 2) (pa_cons pe_int pa_nil)))))
  (pss_cons (ps_set (i := 4) sclaw.nd rfl (Or.inl rfl) (pe_call (ok_law_p2_spread T) (hr.mono (by decide)) (by rfl) T.g__law_p2_spread T.F__law_p2_spread.kp (b__law_p2_spread T) .nil pass0 (pa_cons (pv 1) (pa_cons (pv 2) (pa_cons pe_int pa_nil)))))
  (pss_cons (ps_set (i := 5) sclaw.nd rfl (Or.inl rfl) (pe_slice sl_list (pe_callB (call_sortedD rfl) (by rfl) T.m_sorted (by decide +kernel) (pa_cons (pv 2) pa_nil)) (po_some pe_int) po_none))
  (pss_cons (ps_set (i := 6) sclaw.nd rfl (Or.inl rfl) (pe_lst pa_nil))
  (Evl.pss_cut (ps_if (pt_cmpR op_eq (pe_call (ok_law_draw T) (hr.mono (by decide)) (by rfl) T.g__law_draw T.F__law_draw.kp (b__law_draw T) .nil pass0 (pa_cons (pv 1) (pa_cons pe_int pa_nil))) pe_int (nomark _)) (pss_one (ps_set (i := 6) sclaw.nd rfl (Or.inl rfl) (pe_lst (pa_cons (pe_call (ok_law_name T) (hr.mono (by decide)) (by rfl) T.g__law_name T.F__law_name.kp (b__law_name T) .nil pass0 (pa_cons (pv 1) (pa_cons (pv 5) pa_nil))) pa_nil)))) pss_nil)
  (pss_cons (ps_set (i := 7) sclaw.nd rfl (Or.inl rfl) (pe_make T.mk_Ties (okTies__init__ T) (hr.mono (by decide)) (by rfl) T.g_Ties (b_Ties__init__ T) .nil pass0 (pa_cons (pe_callTy call_list_of (by rfl) T.m_list (by decide +kernel) (pa_cons (pv 3) pa_nil)) pa_nil)))
  (pss_cons (ps_set (i := 8) sclaw.nd rfl (Or.inl rfl) (pe_make T.mk_Ties (okTies__init__ T) (hr.mono (by decide)) (by rfl) T.g_Ties (b_Ties__init__ T) .nil pass0 (pa_cons (pe_callTy call_tuple_of (by rfl) T.m_tuple (by decide +kernel) (pa_cons (pv 4) pa_nil)) pa_nil)))
  (pss_cons (ps_set (i := 9) sclaw.nd rfl (Or.inl rfl) (pe_callTy call_tuple_of (by rfl) T.m_tuple (by decide +kernel) (pa_cons (pe_call (ok_law_some T) (hr.mono (by decide)) (by rfl) T.g__law_some T.F__law_some.kp (b__law_some T) .nil pass0 (pa_cons (pv 1) (pa_cons (pe_op op_cat (pv 5) (pv 6)) (pa_cons pe_int pa_nil)))) pa_nil)))
  (pss_cons (ps_set (i := 10) sclaw.nd rfl (Or.inl rfl) (pe_callB (call_reprD hg (hu_D hr)) (by rfl) T.m_repr (by decide +kernel) (pa_cons (pe_call (okshadow_ties T) (hr.mono (by decide)) (by rfl) T.g_shadow_ties T.F_shadow_ties.kp (b_shadow_ties T) .nil pass0 (pa_cons (pv 7) (pa_cons (pv 9) pa_nil))) pa_nil)))
  (pss_cons (ps_if (PW.pt (pw_or (pt_not (pt_val (pe_call (ok_law_p2_shadow T) (hr.mono (by decide)) (by rfl) T.g__law_p2_shadow T.F__law_p2_shadow.kp (b__law_p2_shadow T) .nil pass0 (pa_cons (pv 1) (pa_cons (pv 7) (pa_cons (pv 3) (pa_cons (pv 9) (pa_cons (pv 2) pa_nil)))))))) (pw_or1 (pt_not (pt_val (pe_call (ok_law_p2_shadow T) (hr.mono (by decide)) (by rfl) T.g__law_p2_shadow T.F__law_p2_shadow.kp (b__law_p2_shadow T) .nil pass0 (pa_cons (pv 1) (pa_cons (pv 8) (pa_cons (pv 4) (pa_cons (pv 9) (pa_cons (pv 2) pa_nil))))))))))) (pss_one (ps_ret pe_bl)) pss_nil)
  (pss_cons (ps_if (PW.pt (pw_or (pt_not (pt_val (pe_call (ok_law_p2_lean T) (hr.mono (by decide)) (by rfl) T.g__law_p2_lean T.F__law_p2_lean.kp (b__law_p2_lean T) .nil pass0 (pa_cons (pv 7) (pa_cons (pv 3) pa_nil))))) (pw_or1 (pt_not (pt_val (pe_call (ok_law_p2_lean T) (hr.mono (by decide)) (by rfl) T.g__law_p2_lean T.F__law_p2_lean.kp (b__law_p2_lean T) .nil pass0 (pa_cons (pv 8) (pa_cons (pv 4) pa_nil)))))))) (pss_one (ps_ret pe_bl)) pss_nil)
  (pss_cons (ps_if (pt_not (pt_val (pe_call (ok_law_p2_shadow T) (hr.mono (by decide)) (by rfl) T.g__law_p2_shadow T.F__law_p2_shadow.kp (b__law_p2_shadow T) .nil pass0 (pa_cons (pv 1) (pa_cons (pv 7) (pa_cons (pv 3) (pa_cons (pe_callTy call_tuple_of (by rfl) T.m_tuple (by decide +kernel) (pa_cons (pe_call (ok_law_some T) (hr.mono (by decide)) (by rfl) T.g__law_some T.F__law_some.kp (b__law_some T) .nil pass0 (pa_cons (pv 1) (pa_cons (pv 5) (pa_cons pe_int pa_nil)))) pa_nil)) (pa_cons (pv 2) pa_nil)))))))) (pss_one (ps_ret pe_bl)) pss_nil)
  (pss_cons (ps_if (PW.pt (pw_or (pt_cmpR op_ne (pe_callB (call_reprD hg (hu_D hr)) (by rfl) T.m_repr (by decide +kernel) (pa_cons (pe_call (okshadow_ties T) (hr.mono (by decide)) (by rfl) T.g_shadow_ties T.F_shadow_ties.kp (b_shadow_ties T) .nil pass0 (pa_cons (pv 7) (pa_cons (pv 9) pa_nil))) pa_nil)) (pv 10) (nomark _)) (pw_or (pt_cmpR (op_neD (hu_D hr)) (pe_callTy (Wr.call_listInst (okTies__iter__ T) (b_Ties__iter__ T) T.it_Ties T.if_Ties (okTies__len__ T) (b_Ties__len__ T) T.ln_Ties T.lf_Ties (hr.mono (by decide)) rfl) (by rfl) T.m_list (by decide +kernel) (pa_cons (pv 7) pa_nil)) (pv 3) (nomark _)) (pw_or1 (pt_cmpR (op_neD (hu_D hr)) (pe_callTy (Wr.call_listInst (okTies__iter__ T) (b_Ties__iter__ T) T.it_Ties T.if_Ties (okTies__len__ T) (b_Ties__len__ T) T.ln_Ties T.lf_Ties (hr.mono (by decide)) rfl) (by rfl) T.m_list (by decide +kernel) (pa_cons (pv 8) pa_nil)) (pv 4) (nomark _)))))) (pss_one (ps_ret pe_bl)) pss_nil)
  (pss_one (ps_ret (pe_and (pe_call (ok_law_p2_lean T) (hr.mono (by decide)) (by rfl) T.g__law_p2_lean T.F__law_p2_lean.kp (b__law_p2_lean T) .nil pass0 (pa_cons (pv 7) (pa_cons (pv 3) pa_nil))) (pe_one (pe_cmpR (op_eqD (hu_D hr)) (pe_call (okshadow_ties T) (hr.mono (by decide)) (by rfl) T.g_shadow_ties T.F_shadow_ties.kp (b_shadow_ties T) .nil pass0 (pa_cons (pv 7) (pa_cons (pe_tup pa_nil) pa_nil))) (pe_tup pa_nil) (nomark _))))))))))))))))))))), ?_⟩
  refine ⟨_, rfl, p, ns, rfl, hp, fun H1 b e1 _ hb => ?_⟩
  refine ⟨_, rfl, _, rfl, _, rfl, (by show 2 ≤ sizeLine; decide), fun pl hpl => ?_⟩
  have dA := Drawn.same (b := b) (same_new (o := .lst [.int 5, .int 8]) hpl)
  have uA : (upd H1 pl (.lst [.int 5, .int 8])) pl = some (.lst [.int 5, .int 8]) := upd_same
  have plb := hb.ne hpl
  generalize upd H1 pl (.lst [.int 5, .int 8]) = HA at dA uA ⊢
  refine ⟨_, rfl, b, _, rfl, dA.ok hb, by decide, by decide, fun HB v dB _ _ => ⟨rfl, .inr ⟨_, rfl, ?_⟩⟩⟩
  have uB := dB.keep plb uA
  have dB := dA.trans dB
  obtain ⟨k, x, hk, hx, x1, x2⟩ : ∃ (k : Nat) (x : Int), (if decide (V.int v = V.int 3) = true then (1 : Int) else 0) = ((k : Nat) : Int) ∧ ([V.int 5, .int 8] : List V)[k]? = some (.int x) ∧ 1 ≤ x ∧ x ≤ 8 := by
    by_cases z : decide (V.int v = V.int 3) = true
    · exact ⟨1, 8, by rw [if_pos z]; rfl, rfl, by decide, by decide⟩
    · exact ⟨0, 5, by rw [if_neg z]; rfl, rfl, by decide, by decide⟩
  rw [hk]
  refine ⟨pl, _, _, _, rfl, rfl, sq_l uB, atI_nat hx, b, x, rfl, dB.ok hb, x1, by omega, fun HC v2 dC w0 w1 => ⟨_, _, rfl, rfl, sz0, fun pe hpe => ?_⟩⟩
  have dC := dB.trans dC
  obtain ⟨n2, rfl⟩ : ∃ k : Nat, v2 = ((k : Nat) : Int) := ⟨v2.toNat, by omega⟩
  have dD := dC.then_ (same_new (o := .lst []) hpe)
  have uD : (upd HC pe (.lst [])) pe = some (.lst []) := upd_same
  have peb := (dC.ok hb).ne hpe
  generalize upd HC pe (.lst []) = HD at dD uD ⊢
  refine ⟨b, pe, n2 + 1, [], ?_, dD.ok hb, uD, peb, (by show 0 ≤ 15; decide), by omega, fun HE pn ms dE hms pnb ndm okm lm => ?_⟩
  · show [V.ref b, V.int (1 + ((n2 : Nat) : Int)), V.ref pe] = _
    rw [show (1 + ((n2 : Nat) : Int)) = ((n2 + 1 : Nat) : Int) by omega]
  have dE := dD.trans dE
  have nde : (emp :: ms).Nodup := List.nodup_cons.mpr ⟨fun m => (okm _ m).ne rfl, ndm⟩
  have lm8 : ms.length ≤ 8 := by omega
  have lm1 : 1 ≤ ms.length := by omega
  refine ⟨b, pn, ms, rfl, dE.ok hb, hms, pnb, nde, by omega, fun HF d h dF hd he hbd => ?_⟩
  have dF := dE.trans dF
  have db : d ≠ b := (dF.ok hb).neO hd fun _ z => by cases z
  refine ⟨_, rfl, _, rfl, b, d, ms, h, 9, rfl, dF.ok hb, hd, he, nde, lm1, by omega, by decide, by decide, fun HG p1 L1 dG h1 p1b t1 l1 w1 => ?_⟩
  have hd := dG.keep db hd
  have dG := dF.trans dG
  refine ⟨_, rfl, _, rfl, b, d, ms, h, 4, rfl, dG.ok hb, hd, he, nde, lm1, by omega, by decide, by decide, fun HH p2 L2 dH h2 p2b t2 l2 w2 => ?_⟩
  have hd := dH.keep db hd
  have h1 := dH.keep p1b h1
  have t1 := dH.ties (dG.ok hb) t1
  have dH := dG.trans dH
  have ok1 : TsOk (tv L1) := tiedW_ok w1 okm (by omega) (by rw [tv_len]; omega)
  have ok2 : TsOk (tv L2) := tiedW_ok w2 okm (by omega) (by rw [tv_len]; omega)
  have fe1 := tiedW_feas w1
  have fe2 := tiedW_feas w2
  -- the lots
  refine ⟨_, rfl, d, _, _, rfl, .of hd, kvs_keys _ h, by show ms.length + 1 < 64; omega, fun ys py pm srt hpy => ?_⟩
  obtain ⟨r, rfl⟩ := emp_first ys srt (pm.mem_iff.mpr List.mem_cons_self)
  have pmr : r.Perm ms := List.Perm.cons_inv pm
  refine ⟨1, rfl, py, _, rfl, sq_l upd_same, fun pz hpz => ?_⟩
  rw [show cutV ((emp :: r).map V.str) (some 1) none = r.map V.str from cut_drop ((emp :: r).map V.str) 1]
  have nI := (same_new (o := .lst ((emp :: r).map V.str)) hpy).trans (same_new (o := .lst (r.map V.str)) hpz)
  have pzb := ((dH.then_ (same_new (o := .lst ((emp :: r).map V.str)) hpy)).ok hb).ne hpz
  have dI := dH.then_ nI
  have uz : (upd (upd HH py (.lst ((emp :: r).map V.str))) pz (.lst (r.map V.str))) pz = some (.lst (r.map V.str)) := upd_same
  have hd := nI _ _ hd
  have h1 := nI _ _ h1
  have t1 := t1.mono nI
  have h2 := nI _ _ h2
  have t2 := t2.mono nI
  generalize upd (upd HH py (.lst ((emp :: r).map V.str))) pz (.lst (r.map V.str)) = HI at dI uz hd h1 t1 h2 t2 ⊢
  have lr : r.length = ms.length := pmr.length_eq
  have okr : ∀ x ∈ r, NmOk x := fun x m => okm x (pmr.mem_iff.mp m)
  have ndr : r.Nodup := pmr.nodup_iff.mpr ndm
  refine ⟨sz0, fun pt0 hpt0 => ?_⟩
  have nJ := same_new (o := .lst []) hpt0
  have pt0b := (dI.ok hb).ne hpt0
  have dJ := dI.then_ nJ
  have u0 : (upd HI pt0 (.lst [])) pt0 = some (.lst []) := upd_same
  have uz := nJ _ _ uz
  have hd := nJ _ _ hd
  have h1 := nJ _ _ h1
  have t1 := t1.mono nJ
  have h2 := nJ _ _ h2
  have t2 := t2.mono nJ
  generalize upd HI pt0 (.lst []) = HJ at dJ u0 uz hd h1 t1 h2 t2 ⊢
  refine ⟨fun σ HK => ∃ ps, ∃ st : List Str, σ = [some (.ref p), some (.ref b), some (.ref d), some (.ref p1), some (.ref p2), some (.ref pz), some (.ref ps), none, none, none, none] ∧ Drawn HJ b HK ∧ HK ps = some (.lst (st.map V.str)) ∧ ps ≠ b ∧ st.length ≤ 1 ∧ (∀ x ∈ st, NmOk x ∧ x ∉ r) ∧ st.Nodup, ?_, ?_⟩
  · refine ⟨_, rfl, b, _, rfl, dJ.ok hb, by decide, by decide, fun HK v dK _ _ => ⟨rfl, _, rfl, ite2 (fun one => ?_) (fun one => ?_)⟩⟩
    · refine ⟨_, rfl, _, rfl, b, pz, r, rfl, (dJ.trans dK).ok hb, dK.keep pzb uz, pzb, by omega, fun HM x dM okx nx => ?_⟩
      refine ⟨sz1, fun ps hps => ⟨ps, [x], rfl, (dK.trans dM).then_ (same_new hps), upd_same, (((dJ.trans dK).trans dM).ok hb).ne hps, Nat.le_refl _, fun y m => ?_, by simp⟩⟩
      rw [List.mem_singleton.mp m]
      exact ⟨okx, nx⟩
    · exact ⟨pt0, [], rfl, dK, dK.keep pt0b u0, pt0b, by decide, (fun _ m => absurd m List.not_mem_nil), List.nodup_nil⟩
  rintro _ HK ⟨ps, st, rfl, dK, us, psb, lst1, okst, ndst⟩
  have hbJ := dJ.ok hb
  have dK' := dJ.trans dK
  have uz := dK.keep pzb uz
  have hd := dK.keep db hd
  have h1 := dK.keep p1b h1
  have t1 := dK.ties hbJ t1
  have h2 := dK.keep p2b h2
  have t2 := dK.ties hbJ t2
  clear u0 hpt0
  -- the boxes
  refine ⟨_, rfl, p1, _, rfl, .inl (sq_l h1), fun l hl => ?_⟩
  have nL := same_new (o := .lst (rf L1)) hl
  refine fun x1 dx hx hdx ne => make_ties hx hdx (.inl upd_same) (t1.mono nL) ok1 fun HL eL box1 => ?_
  have nL := nL.trans eL
  clear hx hdx ne dx hl
  have dL := dK'.then_ nL
  have uz := nL _ _ uz
  have hd := nL _ _ hd
  have h1 := nL _ _ h1
  have t1 := t1.mono nL
  have h2 := nL _ _ h2
  have t2 := t2.mono nL
  have us := nL _ _ us
  refine ⟨_, rfl, p2, _, rfl, .inl ⟨sq_l h2, fun l hl => ?_⟩⟩
  have nM := same_new (o := .tup (rf L2)) hl
  refine fun x2 dx hx hdx ne => make_ties hx hdx (.inr upd_same) (t2.mono nM) ok2 fun HM eM box2 => ?_
  have nM := nM.trans eM
  clear hx hdx ne dx hl
  have dM := dL.then_ nM
  have uz := nM _ _ uz
  have hd := nM _ _ hd
  have h1 := nM _ _ h1
  have t1 := t1.mono nM
  have h2 := nM _ _ h2
  have t2 := t2.mono nM
  have us := nM _ _ us
  have box1 := box1.mono nM
  -- the lots to keep
  have hbM := dM.ok hb
  refine ⟨_, rfl, _, rfl, _, rfl, pz, ps, _, _, rfl, rfl, uz, us, ?_, fun pc hpc => ?_⟩
  · rw [List.length_map, List.length_map]
    exact small (by omega)
  have nN := same_new (o := .lst (r.map V.str ++ st.map V.str)) hpc
  have dN := dM.then_ nN
  have okA : ∀ x ∈ r ++ st, NmOk x := fun x m => (List.mem_append.mp m).elim (okr x) fun m => (okst x m).1
  have ndA : (r ++ st).Nodup := List.nodup_append.mpr ⟨ndr, ndst, fun a ma c mc e => (okst c mc).2 (e ▸ ma)⟩
  refine ⟨b, pc, 0, r ++ st, rfl, dN.ok hb, by rw [upd_same, List.map_append], hbM.ne hpc, ndA, by rw [List.length_append]; omega, fun HO pw ws dO hw ndw subw => ?_⟩
  have dO := (Drawn.same (b := b) nN).trans dO
  refine ⟨_, _, rfl, .inl ⟨sq_l hw, fun wt hwt => ?_⟩⟩
  have dO := dO.then_ (same_new (o := .tup (ws.map V.str)) hwt)
  have uw : (upd HO wt (.tup (ws.map V.str))) wt = some (.tup (ws.map V.str)) := upd_same
  generalize upd HO wt (.tup (ws.map V.str)) = HP at dO uw ⊢
  have hd := dO.keep db hd
  have h1 := dO.keep p1b h1
  have t1 := dO.ties hbM t1
  have h2 := dO.keep p2b h2
  have t2 := dO.ties hbM t2
  have uz := dO.keep pzb uz
  have box1 := dO.box hbM box1
  have box2 := dO.box hbM box2
  have dP := dM.trans dO
  clear dO dN nN nM dM us dL nL dK' dK hbJ dJ dI nI dH dG dF dE dD dC dB dA uA uB uD hw hwt hpc hpz hpy hpe hpl
  have wok : ∀ x ∈ ws, NmOk x := fun x m => okA x (subw x m)
  have wnd : (emp :: ws).Nodup := List.nodup_cons.mpr ⟨fun m => (wok _ m).ne rfl, ndw⟩
  have wfew : ws.length ≤ 9 := by
    have := nodup_le ws (r ++ st) ndw subw
    rw [List.length_append] at this
    omega
  let NL : List Str := emp :: (r ++ st)
  have nl1 : NL.length ≤ 20 := by
    show (r ++ st).length + 1 ≤ 20
    rw [List.length_append]
    omega
  have inr : ∀ x ∈ emp :: ms, x ∈ NL := fun x m => by
    rcases List.mem_cons.mp m with rfl | m
    · exact List.mem_cons_self
    · exact List.mem_cons_of_mem _ (List.mem_append_left _ (pmr.mem_iff.mpr m))
  have nlw : ∀ (us : List Str), (∀ x ∈ us, x ∈ r ++ st) → ∀ y ∈ emp :: us, y ∈ NL := fun us h y m => by
    rcases List.mem_cons.mp m with rfl | m
    · exact List.mem_cons_self
    · exact List.mem_cons_of_mem _ (h y m)
  have nla : ∀ t ∈ tv L1, t.1 ∈ NL ∧ t.2.1 ∈ NL := fun t m => ⟨inr _ (w1 t m).a, inr _ (w1 t m).b⟩
  have nlb : ∀ t ∈ tv L2, t.1 ∈ NL ∧ t.2.1 ∈ NL := fun t m => ⟨inr _ (w2 t m).a, inr _ (w2 t m).b⟩
  -- the first shadow, written out
  refine ⟨_, rfl, _, rfl, x1, wt, L1, ws, rfl, box1, ok1, ⟨h, fe1⟩, uw, by omega, fun HQ pq ns M eQ lots hpq hM eM => ?_⟩
  have ln : ns.length ≤ 19 := by
    have := lots_few w1 lots
    omega
  have sf := shadow_facts (wl := ws) w1 okm he hbd lots ln
  have ⟨f1, f2, f3, f4, f5⟩ := ties_reprF (K := K) hpq hM eM sf (Nat.le_trans (shadow_len ln) (by decide))
  refine ⟨pq, _, rfl, f1, f2, f3, f4, f5, ?_⟩
  clear f1
  generalize htx : (PyData.tuple ((shadowOf (tv L1) ns ws).map tieD)).shown = text
  have hd := eQ _ _ hd
  have h1 := eQ _ _ h1
  have t1 := t1.mono eQ
  have h2 := eQ _ _ h2
  have t2 := t2.mono eQ
  have uz := eQ _ _ uz
  have uw := eQ _ _ uw
  have box1 := box1.mono eQ
  have box2 := box2.mono eQ
  have dQ := dP.then_ eQ
  have hbQ := dQ.ok hb
  have wtb : wt ≠ b := hbQ.neO uw fun _ z => by cases z
  clear hpq hM eM eQ dP pq M
  refine ⟨_, rfl, _, rfl, _, rfl, _, rfl, _, rfl, b, x1, p1, wt, d, L1, L1, ws, _, h, rfl, hbQ, box1, rfl, h1, p1b, t1, ok1, ⟨h, fe1⟩, uw, wnd, wok, ⟨NL, nl1, nla, nlw ws subw⟩, by omega, hd, fun HR dR => ⟨true, rfl, iteF ?_⟩⟩
  have box1' := dR.box hbQ box1
  have box2' := dR.box hbQ box2
  refine ⟨_, rfl, _, rfl, _, rfl, _, rfl, _, rfl, b, x2, p2, wt, d, L2, L2, ws, _, h, rfl, dR.ok hbQ, box2', rfl, dR.keep p2b h2, p2b, dR.ties hbQ t2, ok2, ⟨h, fe2⟩, dR.keep wtb uw, wnd, wok, ⟨NL, nl1, nlb, nlw ws subw⟩, by omega, dR.keep db hd, fun HS dS_ => ⟨true, rfl, iteF ?_⟩⟩
  have dS2 := dR.trans dS_
  clear dR dS_ box1' box2'
  -- lean ties
  refine ⟨_, rfl, _, rfl, x1, p1, L1, L1, rfl, dS2.box hbQ box1, dS2.keep p1b h1, dS2.ties hbQ t1, rfl, ok1, ⟨h, fe1⟩, fun HT eT => ⟨true, rfl, iteF ?_⟩⟩
  have dT2 := dS2.then_ eT
  refine ⟨_, rfl, _, rfl, x2, p2, L2, L2, rfl, dT2.box hbQ box2, dT2.keep p2b h2, dT2.ties hbQ t2, rfl, ok2, ⟨h, fe2⟩, fun HU eU => ⟨true, rfl, iteF ?_⟩⟩
  have dU := dT2.then_ eU
  clear eT eU dS2 dT2
  have hbU := dU.ok hbQ
  -- the shadow for other lots
  refine ⟨_, rfl, _, rfl, _, rfl, _, rfl, _, rfl, b, pz, 1, r, rfl, hbU, dU.keep pzb uz, pzb, ndr, by omega, fun HV pw ws2 dV hw nd2 sub2 => ?_⟩
  have dV := dU.trans dV
  refine ⟨_, _, rfl, .inl ⟨sq_l hw, fun wt2 hwt => ?_⟩⟩
  have dV := dV.then_ (same_new (o := .tup (ws2.map V.str)) hwt)
  have uw2 : (upd HV wt2 (.tup (ws2.map V.str))) wt2 = some (.tup (ws2.map V.str)) := upd_same
  generalize upd HV wt2 (.tup (ws2.map V.str)) = HW at dV uw2 ⊢
  have wok2 : ∀ x ∈ ws2, NmOk x := fun x m => okr x (sub2 x m)
  have wnd2 : (emp :: ws2).Nodup := List.nodup_cons.mpr ⟨fun m => (wok2 _ m).ne rfl, nd2⟩
  have wfew2 : ws2.length ≤ 8 := by
    have := nodup_le ws2 r nd2 sub2
    omega
  refine ⟨_, rfl, b, x1, p1, wt2, d, L1, L1, ws2, _, h, rfl, dV.ok hbQ, dV.box hbQ box1, rfl, dV.keep p1b h1, p1b, dV.ties hbQ t1, ok1, ⟨h, fe1⟩, uw2, wnd2, wok2, ⟨NL, nl1, nla, nlw ws2 fun x m => List.mem_append_left _ (sub2 x m)⟩, by omega, dV.keep db hd, fun HX dX => ⟨true, rfl, iteF ?_⟩⟩
  have dX := dV.trans dX
  clear dV dU uw2 hw hwt hbU
  have box1 := dX.box hbQ box1
  have box2 := dX.box hbQ box2
  have h1 := dX.keep p1b h1
  have t1 := dX.ties hbQ t1
  have h2 := dX.keep p2b h2
  have t2 := dX.ties hbQ t2
  have uw := dX.keep wtb uw
  clear dX hd uz
  -- the same shadow again
  refine ⟨_, rfl, _, rfl, x1, wt, L1, ws, rfl, box1, ok1, ⟨h, fe1⟩, uw, by omega, fun HY pq ns2 M eY lots2 hpq hM eM => ?_⟩
  have := lots2.uniq lots
  subst this
  have ⟨f1, f2, f3, f4, f5⟩ := ties_reprF (K := K) hpq hM eM sf (Nat.le_trans (shadow_len ln) (by decide))
  refine ⟨pq, _, rfl, f1, f2, f3, f4, f5, ?_⟩
  rw [htx]
  refine ⟨_, rfl, rfl, false, ?_, iteF ?_⟩
  · show V.bl (!decide (V.str text = V.str text)) = _
    rw [decide_eq_true rfl]
    rfl
  have box1 := box1.mono eY
  have box2 := box2.mono eY
  have h1 := eY _ _ h1
  have t1 := t1.mono eY
  have h2 := eY _ _ h2
  have t2 := t2.mono eY
  clear f1 hpq hM eM eY uw
  have sh1 := shaped_ties ok1.ok
  have sh2 := shaped_ties ok2.ok
  have ⟨dx1, r1, b11, b12, b13⟩ := box1
  refine ⟨_, rfl, x1, dx1, _, r1, _, rfl, b11, rfl, sq_t b12, fun q1 hq1 => ?_⟩
  have n1 := same_new (o := .lst (rf L1)) hq1
  refine ⟨_, rfl, _, _, .lst (sq_l upd_same) (dp_ties (t1.mono n1)), .lst (sq_l (n1 _ _ h1)) (dp_ties (t1.mono n1)), sh1, sh1, false, ?_, iteF ?_⟩
  · rw [SeqAt.eqv_refl _ (SeqAt.canLay_of_shaped sh1)]
    rfl
  have box1 := box1.mono n1
  have box2 := box2.mono n1
  have h1 := n1 _ _ h1
  have t1 := t1.mono n1
  have h2 := n1 _ _ h2
  have t2 := t2.mono n1
  generalize upd HY q1 (.lst (rf L1)) = HZ at box1 box2 h1 t1 h2 t2 ⊢
  clear n1 b11 b12 b13 dx1 r1
  have ⟨dx2, r2, b21, b22, b23⟩ := box2
  refine ⟨_, rfl, x2, dx2, _, r2, _, rfl, b21, rfl, sq_t b22, fun q2 hq2 => ?_⟩
  have n2 := same_new (o := .lst (rf L2)) hq2
  refine ⟨_, rfl, _, _, .lst (sq_l upd_same) (dp_ties (t2.mono n2)), .lst (sq_l (n2 _ _ h2)) (dp_ties (t2.mono n2)), sh2, sh2, false, ?_, iteF ?_⟩
  · rw [SeqAt.eqv_refl _ (SeqAt.canLay_of_shaped sh2)]
    rfl
  have box1 := box1.mono n2
  have h1 := n2 _ _ h1
  have t1 := t1.mono n2
  generalize upd HZ q2 (.lst (rf L2)) = Ha at box1 h1 t1 ⊢
  clear n2 b21 b22 b23 dx2 r2 box2 h2 t2
  -- the last look
  refine ⟨_, rfl, _, rfl, x1, p1, L1, L1, rfl, box1, h1, t1, rfl, ok1, ⟨h, fe1⟩, fun Hb eb => ⟨true, rfl, iteT ?_⟩⟩
  have box1 := box1.mono eb
  refine ⟨_, rfl, sz0, fun pe hpe => ?_⟩
  have n3 := same_new (o := .tup []) hpe
  refine ⟨x1, pe, L1, [], rfl, box1.mono n3, ok1, ⟨h, fe1⟩, upd_same, by decide, fun Hc pf nsf Mf ef lotsf hpf hMf eMf => ?_⟩
  rw [shadow_none] at eMf
  refine ⟨sz0, fun pg hpg => ?_⟩
  have n4 := same_new (o := .tup []) hpg
  refine ⟨_, _, .tup (sq_t (n4 _ _ hpf)) (dp_ties (hMf.mono n4)), .tup (sq_t upd_same) .nil, ?_, rfl, ?_⟩
  · rw [eMf]; rfl
  · rw [eMf]
    exact q _
end
end Sw
namespace Sw
open PySem PySem.Spec PyProof.Rows L2 Wr WM
theorem tp_of {K : PySem.W.Frag} {h : Heap} {mg : Str → Option Value} (X : K.In h) (G : h.Ns mainGlobals mg) (c : SaysW K) : Nonempty (Tp K mg) := by
  have c1 : He.SaysD faL fnL K := congrArg (fun z : AlW => z.1) c
  have c2 : fnWA K (propG K) = (some ("lots", "Ties.lots", defArgs sLots, .stmts (defBody sLots), defScope sLots, mainGlobals, [], builtinsNs) : He.FnW) := congrArg (fun z : AlW => z.2.1) c
  have c3 : exB K = true := congrArg (fun z : AlW => z.2.2) c
  obtain ⟨x1, c3⟩ := He.ba c3
  obtain ⟨x2, c3⟩ := He.ba c3
  obtain ⟨x3, c3⟩ := He.ba c3
  obtain ⟨x4, c3⟩ := He.ba c3
  obtain ⟨x5, c3⟩ := He.ba c3
  obtain ⟨x6, c3⟩ := He.ba c3
  obtain ⟨x7, c3⟩ := He.ba c3
  obtain ⟨x8, c3⟩ := He.ba c3
  obtain ⟨x9, c3⟩ := He.ba c3
  obtain ⟨x10, c3⟩ := He.ba c3
  obtain ⟨x11, x12⟩ := He.ba c3
  obtain ⟨dP, FP⟩ := funA c2 x5
  have rec_ : ∃ rest, PySem.W.recIn K (propP K) "property" = some (.ref (propG K) :: rest) := by
    have e : propG K = (match PySem.W.recIn K (propP K) "property" with
      | some (.ref g :: _) => g
      | _ => 0) := rfl
    match hq : PySem.W.recIn K (propP K) "property", x4 with
    | some (.ref g :: rest), _ =>
      rw [hq] at e
      exact ⟨rest, by rw [e]⟩
  obtain ⟨kL, cL⟩ := He.str_ok X G (c1.fact 60 (f := .str "LETTERS" "abcdefghijklmnopqrstuvwxyz") rfl)
  obtain ⟨kS, cS⟩ := He.str_ok X G (c1.fact 61 (f := .str "SIGNS" "abcdefghijklmnopqrstuvwxyz0123456789") rfl)
  obtain ⟨kM, cM⟩ := He.int_ok X G (c1.fact 62 (f := .int "MOST_TIES" 200) rfl)
  have pr : PropOf K (He.ga K "Ties") "lots" (propP K) (propG K) := ⟨He.eqO_ok x1, He.eqO_ok x2, of_decide_eq_true x3, rec_⟩
  have tR : ∀ H : Hp, SqT K H (He.ga K "RESERVED") (resW.map V.str) := fun H => by
    have e := He.tupB_ok x8 H
    rw [List.map_map] at e
    exact e
  obtain ⟨d0, F0⟩ := c1.def_ 0 (d := dis_integer) rfl
  obtain ⟨d1, F1⟩ := c1.def_ 1 (d := dis_word) rfl
  obtain ⟨d2, F2⟩ := c1.def_ 2 (d := dis_name) rfl
  obtain ⟨d3, F3⟩ := c1.def_ 3 (d := dis_end) rfl
  obtain ⟨d4, F4⟩ := c1.def_ 4 (d := dis_tie) rfl
  obtain ⟨d5, F5⟩ := c1.def_ 5 (d := dlots_in) rfl
  obtain ⟨d6, F6⟩ := c1.def_ 6 (d := dTies__init__) rfl
  obtain ⟨d7, F7⟩ := c1.def_ 7 (d := dTies__len__) rfl
  obtain ⟨d8, F8⟩ := c1.def_ 8 (d := dTies__iter__) rfl
  obtain ⟨d9, F9⟩ := c1.def_ 9 (d := dring_behind) rfl
  obtain ⟨d10, F10⟩ := c1.def_ 10 (d := dplaced_rows) rfl
  obtain ⟨d11, F11⟩ := c1.def_ 11 (d := dplaced) rfl
  obtain ⟨d12, F12⟩ := c1.def_ 12 (d := dleast_ties) rfl
  obtain ⟨d13, F13⟩ := c1.def_ 13 (d := dTable__init__) rfl
  obtain ⟨d14, F14⟩ := c1.def_ 14 (d := dTable__iter__) rfl
  obtain ⟨d15, F15⟩ := c1.def_ 15 (d := dTable__eq__) rfl
  obtain ⟨d16, F16⟩ := c1.def_ 16 (d := dshadow_ties) rfl
  obtain ⟨d17, F17⟩ := c1.def_ 17 (d := dtie_follows) rfl
  obtain ⟨d18, F18⟩ := c1.def_ 18 (d := dlean_ties) rfl
  obtain ⟨d19, F19⟩ := c1.def_ 19 (d := d_law_bag) rfl
  obtain ⟨d20, F20⟩ := c1.def_ 20 (d := d_law_mixed) rfl
  obtain ⟨d21, F21⟩ := c1.def_ 21 (d := d_law_draw) rfl
  obtain ⟨d22, F22⟩ := c1.def_ 22 (d := d_law_pick) rfl
  obtain ⟨d23, F23⟩ := c1.def_ 23 (d := d_law_some) rfl
  obtain ⟨d24, F24⟩ := c1.def_ 24 (d := d_law_name) rfl
  obtain ⟨d25, F25⟩ := c1.def_ 25 (d := d_law_names) rfl
  obtain ⟨d26, F26⟩ := c1.def_ 26 (d := d_law_is_int) rfl
  obtain ⟨d27, F27⟩ := c1.def_ 27 (d := d_law_ring) rfl
  obtain ⟨d28, F28⟩ := c1.def_ 28 (d := d_law_p2_days) rfl
  obtain ⟨d29, F29⟩ := c1.def_ 29 (d := d_law_p2_tie) rfl
  obtain ⟨d30, F30⟩ := c1.def_ 30 (d := d_law_p2_chain) rfl
  obtain ⟨d31, F31⟩ := c1.def_ 31 (d := d_law_p2_ties) rfl
  obtain ⟨d32, F32⟩ := c1.def_ 32 (d := d_law_p2_lots) rfl
  obtain ⟨d33, F33⟩ := c1.def_ 33 (d := d_law_p2_fits) rfl
  obtain ⟨d34, F34⟩ := c1.def_ 34 (d := d_law_p2_read_days) rfl
  obtain ⟨d35, F35⟩ := c1.def_ 35 (d := d_law_p2_least) rfl
  obtain ⟨d36, F36⟩ := c1.def_ 36 (d := d_law_p2_rows) rfl
  obtain ⟨d37, F37⟩ := c1.def_ 37 (d := d_law_p2_spread) rfl
  obtain ⟨d38, F38⟩ := c1.def_ 38 (d := d_law_p2_chosen) rfl
  obtain ⟨d39, F39⟩ := c1.def_ 39 (d := d_law_p2_goes_on) rfl
  obtain ⟨d40, F40⟩ := c1.def_ 40 (d := d_law_p2_are_ties) rfl
  obtain ⟨d41, F41⟩ := c1.def_ 41 (d := d_law_p2_shadow) rfl
  obtain ⟨d42, F42⟩ := c1.def_ 42 (d := d_law_p2_reach) rfl
  obtain ⟨d43, F43⟩ := c1.def_ 43 (d := d_law_p2_lean) rfl
  obtain ⟨d44, F44⟩ := c1.def_ 44 (d := dLaw) rfl
  exact ⟨{
    m_isinstance := He.free_ok X G (c1.fact 42 (f := .free "isinstance") rfl),
    m_int := He.free_ok X G (c1.fact 43 (f := .free "int") rfl),
    m_bool := He.free_ok X G (c1.fact 44 (f := .free "bool") rfl),
    m_str := He.free_ok X G (c1.fact 45 (f := .free "str") rfl),
    m_len := He.free_ok X G (c1.fact 46 (f := .free "len") rfl),
    m_all := He.free_ok X G (c1.fact 47 (f := .free "all") rfl),
    m_tuple := He.free_ok X G (c1.fact 48 (f := .free "tuple") rfl),
    m_sorted := He.free_ok X G (c1.fact 49 (f := .free "sorted") rfl),
    m_enumerate := He.free_ok X G (c1.fact 50 (f := .free "enumerate") rfl),
    m_range := He.free_ok X G (c1.fact 51 (f := .free "range") rfl),
    m_min := He.free_ok X G (c1.fact 52 (f := .free "min") rfl),
    m_list := He.free_ok X G (c1.fact 53 (f := .free "list") rfl),
    m_iter := He.free_ok X G (c1.fact 54 (f := .free "iter") rfl),
    m_sum := He.free_ok X G (c1.fact 55 (f := .free "sum") rfl),
    m_abs := He.free_ok X G (c1.fact 56 (f := .free "abs") rfl),
    m_zip := He.free_ok X G (c1.fact 57 (f := .free "zip") rfl),
    m_max := He.free_ok X G (c1.fact 58 (f := .free "max") rfl),
    m_repr := He.free_ok X G (c1.fact 59 (f := .free "repr") rfl),
    a_is_integer := He.ga K "is_integer",
    d_is_integer := d0,
    F_is_integer := F0,
    a_is_word := He.ga K "is_word",
    d_is_word := d1,
    F_is_word := F1,
    a_is_name := He.ga K "is_name",
    d_is_name := d2,
    F_is_name := F2,
    a_is_end := He.ga K "is_end",
    d_is_end := d3,
    F_is_end := F3,
    a_is_tie := He.ga K "is_tie",
    d_is_tie := d4,
    F_is_tie := F4,
    a_lots_in := He.ga K "lots_in",
    d_lots_in := d5,
    F_lots_in := F5,
    a_Ties__init__ := He.ma K (He.ga K "Ties") "__init__",
    d_Ties__init__ := d6,
    F_Ties__init__ := F6,
    a_Ties__len__ := He.ma K (He.ga K "Ties") "__len__",
    d_Ties__len__ := d7,
    F_Ties__len__ := F7,
    a_Ties__iter__ := He.ma K (He.ga K "Ties") "__iter__",
    d_Ties__iter__ := d8,
    F_Ties__iter__ := F8,
    a_ring_behind := He.ga K "ring_behind",
    d_ring_behind := d9,
    F_ring_behind := F9,
    a_placed_rows := He.ga K "placed_rows",
    d_placed_rows := d10,
    F_placed_rows := F10,
    a_placed := He.ga K "placed",
    d_placed := d11,
    F_placed := F11,
    a_least_ties := He.ga K "least_ties",
    d_least_ties := d12,
    F_least_ties := F12,
    a_Table__init__ := He.ma K (He.ga K "Table") "__init__",
    d_Table__init__ := d13,
    F_Table__init__ := F13,
    a_Table__iter__ := He.ma K (He.ga K "Table") "__iter__",
    d_Table__iter__ := d14,
    F_Table__iter__ := F14,
    a_Table__eq__ := He.ma K (He.ga K "Table") "__eq__",
    d_Table__eq__ := d15,
    F_Table__eq__ := F15,
    a_shadow_ties := He.ga K "shadow_ties",
    d_shadow_ties := d16,
    F_shadow_ties := F16,
    a_tie_follows := He.ga K "tie_follows",
    d_tie_follows := d17,
    F_tie_follows := F17,
    a_lean_ties := He.ga K "lean_ties",
    d_lean_ties := d18,
    F_lean_ties := F18,
    a__law_bag := He.ga K "_law_bag",
    d__law_bag := d19,
    F__law_bag := F19,
    a__law_mixed := He.ga K "_law_mixed",
    d__law_mixed := d20,
    F__law_mixed := F20,
    a__law_draw := He.ga K "_law_draw",
    d__law_draw := d21,
    F__law_draw := F21,
    a__law_pick := He.ga K "_law_pick",
    d__law_pick := d22,
    F__law_pick := F22,
    a__law_some := He.ga K "_law_some",
    d__law_some := d23,
    F__law_some := F23,
    a__law_name := He.ga K "_law_name",
    d__law_name := d24,
    F__law_name := F24,
    a__law_names := He.ga K "_law_names",
    d__law_names := d25,
    F__law_names := F25,
    a__law_is_int := He.ga K "_law_is_int",
    d__law_is_int := d26,
    F__law_is_int := F26,
    a__law_ring := He.ga K "_law_ring",
    d__law_ring := d27,
    F__law_ring := F27,
    a__law_p2_days := He.ga K "_law_p2_days",
    d__law_p2_days := d28,
    F__law_p2_days := F28,
    a__law_p2_tie := He.ga K "_law_p2_tie",
    d__law_p2_tie := d29,
    F__law_p2_tie := F29,
    a__law_p2_chain := He.ga K "_law_p2_chain",
    d__law_p2_chain := d30,
    F__law_p2_chain := F30,
    a__law_p2_ties := He.ga K "_law_p2_ties",
    d__law_p2_ties := d31,
    F__law_p2_ties := F31,
    a__law_p2_lots := He.ga K "_law_p2_lots",
    d__law_p2_lots := d32,
    F__law_p2_lots := F32,
    a__law_p2_fits := He.ga K "_law_p2_fits",
    d__law_p2_fits := d33,
    F__law_p2_fits := F33,
    a__law_p2_read_days := He.ga K "_law_p2_read_days",
    d__law_p2_read_days := d34,
    F__law_p2_read_days := F34,
    a__law_p2_least := He.ga K "_law_p2_least",
    d__law_p2_least := d35,
    F__law_p2_least := F35,
    a__law_p2_rows := He.ga K "_law_p2_rows",
    d__law_p2_rows := d36,
    F__law_p2_rows := F36,
    a__law_p2_spread := He.ga K "_law_p2_spread",
    d__law_p2_spread := d37,
    F__law_p2_spread := F37,
    a__law_p2_chosen := He.ga K "_law_p2_chosen",
    d__law_p2_chosen := d38,
    F__law_p2_chosen := F38,
    a__law_p2_goes_on := He.ga K "_law_p2_goes_on",
    d__law_p2_goes_on := d39,
    F__law_p2_goes_on := F39,
    a__law_p2_are_ties := He.ga K "_law_p2_are_ties",
    d__law_p2_are_ties := d40,
    F__law_p2_are_ties := F40,
    a__law_p2_shadow := He.ga K "_law_p2_shadow",
    d__law_p2_shadow := d41,
    F__law_p2_shadow := F41,
    a__law_p2_reach := He.ga K "_law_p2_reach",
    d__law_p2_reach := d42,
    F__law_p2_reach := F42,
    a__law_p2_lean := He.ga K "_law_p2_lean",
    d__law_p2_lean := d43,
    F__law_p2_lean := F43,
    a_law := He.ga K "law",
    d_law := d44,
    F_law := F44,
    g_is_integer := He.glo_ok X G (c1.fact 0 (f := .glo "is_integer") rfl),
    g_is_word := He.glo_ok X G (c1.fact 1 (f := .glo "is_word") rfl),
    g_is_name := He.glo_ok X G (c1.fact 2 (f := .glo "is_name") rfl),
    g_is_end := He.glo_ok X G (c1.fact 3 (f := .glo "is_end") rfl),
    g_is_tie := He.glo_ok X G (c1.fact 4 (f := .glo "is_tie") rfl),
    g_lots_in := He.glo_ok X G (c1.fact 5 (f := .glo "lots_in") rfl),
    g_ring_behind := He.glo_ok X G (c1.fact 6 (f := .glo "ring_behind") rfl),
    g_placed_rows := He.glo_ok X G (c1.fact 7 (f := .glo "placed_rows") rfl),
    g_placed := He.glo_ok X G (c1.fact 8 (f := .glo "placed") rfl),
    g_least_ties := He.glo_ok X G (c1.fact 9 (f := .glo "least_ties") rfl),
    g_shadow_ties := He.glo_ok X G (c1.fact 10 (f := .glo "shadow_ties") rfl),
    g_tie_follows := He.glo_ok X G (c1.fact 11 (f := .glo "tie_follows") rfl),
    g_lean_ties := He.glo_ok X G (c1.fact 12 (f := .glo "lean_ties") rfl),
    g__law_bag := He.glo_ok X G (c1.fact 13 (f := .glo "_law_bag") rfl),
    g__law_mixed := He.glo_ok X G (c1.fact 14 (f := .glo "_law_mixed") rfl),
    g__law_draw := He.glo_ok X G (c1.fact 15 (f := .glo "_law_draw") rfl),
    g__law_pick := He.glo_ok X G (c1.fact 16 (f := .glo "_law_pick") rfl),
    g__law_some := He.glo_ok X G (c1.fact 17 (f := .glo "_law_some") rfl),
    g__law_name := He.glo_ok X G (c1.fact 18 (f := .glo "_law_name") rfl),
    g__law_names := He.glo_ok X G (c1.fact 19 (f := .glo "_law_names") rfl),
    g__law_is_int := He.glo_ok X G (c1.fact 20 (f := .glo "_law_is_int") rfl),
    g__law_ring := He.glo_ok X G (c1.fact 21 (f := .glo "_law_ring") rfl),
    g__law_p2_days := He.glo_ok X G (c1.fact 22 (f := .glo "_law_p2_days") rfl),
    g__law_p2_tie := He.glo_ok X G (c1.fact 23 (f := .glo "_law_p2_tie") rfl),
    g__law_p2_chain := He.glo_ok X G (c1.fact 24 (f := .glo "_law_p2_chain") rfl),
    g__law_p2_ties := He.glo_ok X G (c1.fact 25 (f := .glo "_law_p2_ties") rfl),
    g__law_p2_lots := He.glo_ok X G (c1.fact 26 (f := .glo "_law_p2_lots") rfl),
    g__law_p2_fits := He.glo_ok X G (c1.fact 27 (f := .glo "_law_p2_fits") rfl),
    g__law_p2_read_days := He.glo_ok X G (c1.fact 28 (f := .glo "_law_p2_read_days") rfl),
    g__law_p2_least := He.glo_ok X G (c1.fact 29 (f := .glo "_law_p2_least") rfl),
    g__law_p2_rows := He.glo_ok X G (c1.fact 30 (f := .glo "_law_p2_rows") rfl),
    g__law_p2_spread := He.glo_ok X G (c1.fact 31 (f := .glo "_law_p2_spread") rfl),
    g__law_p2_chosen := He.glo_ok X G (c1.fact 32 (f := .glo "_law_p2_chosen") rfl),
    g__law_p2_goes_on := He.glo_ok X G (c1.fact 33 (f := .glo "_law_p2_goes_on") rfl),
    g__law_p2_are_ties := He.glo_ok X G (c1.fact 34 (f := .glo "_law_p2_are_ties") rfl),
    g__law_p2_shadow := He.glo_ok X G (c1.fact 35 (f := .glo "_law_p2_shadow") rfl),
    g__law_p2_reach := He.glo_ok X G (c1.fact 36 (f := .glo "_law_p2_reach") rfl),
    g__law_p2_lean := He.glo_ok X G (c1.fact 37 (f := .glo "_law_p2_lean") rfl),
    g_law := He.glo_ok X G (c1.fact 38 (f := .glo "law") rfl),
    a_Ties := He.ga K "Ties",
    a_Table := He.ga K "Table",
    g_Ties := He.glo_ok X G (c1.fact 39 (f := .glo "Ties") rfl),
    g_Table := He.glo_ok X G (c1.fact 40 (f := .glo "Table") rfl),
    cl_Ties := He.cls_ok (c1.fact 63 (f := .cls "Ties") rfl),
    cl_Table := He.cls_ok (c1.fact 66 (f := .cls "Table") rfl),
    na_rows := He.noat_ok (c1.fact 64 (f := .noat "Ties" "rows") rfl),
    na__names := He.noat_ok (c1.fact 67 (f := .noat "Table" "_names") rfl),
    na__least := He.noat_ok (c1.fact 68 (f := .noat "Table" "_least") rfl),
    na__ties := He.noat_ok (c1.fact 69 (f := .noat "Table" "_ties") rfl),
    mk_Ties := He.mkr_ok (c1.fact 65 (f := .mkr "Ties") rfl),
    mk_Table := He.mkr_ok (c1.fact 70 (f := .mkr "Table") rfl),
    it_Ties := (He.meth_ok (c1.fact 71 (f := .meth "Ties" "__iter__") rfl)).at_,
    if_Ties := (He.meth_ok (c1.fact 71 (f := .meth "Ties" "__iter__") rfl)).fn,
    ln_Ties := (He.meth_ok (c1.fact 72 (f := .meth "Ties" "__len__") rfl)).at_,
    lf_Ties := (He.meth_ok (c1.fact 72 (f := .meth "Ties" "__len__") rfl)).fn,
    it_Table := (He.meth_ok (c1.fact 73 (f := .meth "Table" "__iter__") rfl)).at_,
    if_Table := (He.meth_ok (c1.fact 73 (f := .meth "Table" "__iter__") rfl)).fn,
    eq_Table := (He.meth_ok (c1.fact 74 (f := .meth "Table" "__eq__") rfl)).at_,
    ef_Table := (He.meth_ok (c1.fact 74 (f := .meth "Table" "__eq__") rfl)).fn,
    tc1 := He.eqO_ok x9,
    tc2 := He.eqO_ok x10,
    tc3 := of_decide_eq_true x11,
    tc4 := of_decide_eq_true x12,
    a_lots := propP K,
    a_Tieslots := propG K,
    d_Tieslots := dP,
    F_Tieslots := FP,
    pr_lots := pr,
    a_RESERVED := He.ga K "RESERVED",
    c_RESERVED := He.glo_ok X G (c1.fact 41 (f := .glo "RESERVED") rfl),
    t_RESERVED := tR,
    k_LETTERS := kL,
    c_LETTERS := cL,
    k_SIGNS := kS,
    c_SIGNS := cS,
    k_MOST_TIES := kM,
    c_MOST_TIES := cM }⟩
end Sw
open PySem PySem.W PySem.Calls PyProof.Rows
theorem PySem.Challenge.cw_swornlots_k22_whole_day_shadow_holds : PySem.Challenge.rw_swornlots_k22_whole_day_shadow.Holds := by
  w_on; o_law
  refine HandSHeadRun.head_any (r := OpenLaw.row PySem.Challenge.rw_swornlots_k22_whole_day_shadow) (q := view (OpenLaw.row PySem.Challenge.rw_swornlots_k22_whole_day_shadow).prog [57]) (H := Sw.hookW 7) (ob := Sw.ob 7) (M := 20000) (loose := Sw.looseW) (d := HandSHeadRun.topDef (OpenLaw.row PySem.Challenge.rw_swornlots_k22_whole_day_shadow).prog 57) (kwd := []) (Sw.ob_eq 7)
    (by kernel_rfl) (fun s => by kernel_rfl) Sw.run (by kernel_rfl) (by kernel_rfl) (by kernel_rfl) (by rfl) (by first | assumption | decide +kernel) (by decide +kernel) ⟨rfl, rfl, rfl, rfl, rfl, by decide +kernel⟩ ?hw ?hc
  case hw => w_witness2
  case hc =>
    refine Wr.walk_ofG (l := PySem.Challenge.rw_swornlots_k22_whole_day_shadow) (n := 63) (k := 10) (x := "_law_script") rfl (by decide) (by kernel_rfl) ⟨rfl, by decide, by decide⟩ ?F
    intro w mg fa h Y G hmg0
    obtain ⟨K, KX, c⟩ := Y
    have hmg : mg ("law" : PySem.Str) = some (.ref fa) := by
      have e : (HandSHeadRun.topDef (OpenLaw.row PySem.Challenge.rw_swornlots_k22_whole_day_shadow).prog 57).name = ("law" : PySem.Str) := by kernel_rfl
      rw [← e]
      exact hmg0
    obtain ⟨T⟩ := Sw.tp_of KX G c
    have e := hmg.symm.trans T.g_law
    cases e
    have b := L2.FunD.bindsA (ps := ["_law_script"]) T.F_law fun _ _ _ _ _ _ us hl => match us, hl with | [_], _ => rfl
    exact ⟨K, T.d_law, Sw.spLaw K, KX, fun s v => b s [v] rfl, fun H a ns hS => ⟨a, ns, rfl, hS, fun _ => rfl⟩, fun base _ _ => Sw.oklaw T⟩
